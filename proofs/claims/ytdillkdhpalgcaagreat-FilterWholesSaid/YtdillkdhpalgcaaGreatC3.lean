import Derived.Test.YtdillkdhpalgcaaGreatB1
set_option linter.unusedSimpArgs false
set_option linter.unusedVariables false
set_option linter.unusedSimpArgs false
set_option linter.unusedVariables false
namespace Go.S16
open Go.RowKit Go.Proofs Go.Eng Go.Rect
set_option maxHeartbeats 8000000 in
set_option maxRecDepth 100000 in
theorem newView_z (i : Im) (o : Pt) (bd : Rc) (k : Int) (ps : List Int) (hf : fchkE k ps = 0) (hk : k = 4 ∨ k = 7 ∨ k = 8) : Eng.FnZ Tryz.prog 14 (zNv 3 64 i o bd k ps) := by
  have hg := fk_rg hf
  have hg1 := hg.2.2.2.1 (by omega) (by omega)
  have hg2 := hg1.2.2.2.1 (by omega)
  refine Eng.FnZ.by (fn := Tryz.f14) 104 [.tmp 10] Tryz.func14 rfl Tryz.ntmps14 rfl (by simp [zNv]) fun w0 X G0 u => ?_
  refine WA_seq (x := (fcd Tryz.f14 [0])) (y := (fcd Tryz.f14 [1])) ?_
  refine V_regionZ Γ Δ Θ [] [0, 1, 2, 3, 4, 5, 6, 7, 10, 11, 12, 13, 14, 22, 23, 46, 47, 48, 57, 74, 90, 91] (evs ?_)
  all_goals (try with_reducible (repeat' (first | apply And.intro | intro _)))
  all_goals (try (first | with_reducible refine wa_id ?_ | exact True.intro | omega))
  refine WA_seq (x := (fcd Tryz.f14 [1, 0])) (y := (fcd Tryz.f14 [1, 1])) ?_
  refine V_regionZ Γ Δ Θ [] [0, 1, 2, 3, 4, 5, 6, 7, 10, 11, 12, 13, 14, 22, 23, 46, 47, 48, 57, 74, 90, 91] (evs ?_)
  all_goals (try with_reducible (repeat' (first | apply And.intro | intro _)))
  all_goals (try (first | with_reducible refine wa_id ?_ | exact True.intro | omega))
  refine WA_seq (x := (fcd Tryz.f14 [1, 1, 0])) (y := (fcd Tryz.f14 [1, 1, 1])) ?_
  refine WA_seq (x := (fcd Tryz.f14 [1, 1, 0, 0])) (y := (fcd Tryz.f14 [1, 1, 0, 1])) ?_
  refine V_regionZ Γ Δ Θ [] [0, 1, 2, 3, 4, 5, 6, 7, 10, 11, 12, 13, 14, 22, 23, 46, 47, 48, 57, 74, 90, 91] (evs ?_)
  all_goals (try with_reducible (repeat' (first | apply And.intro | intro _)))
  all_goals (try (first | with_reducible refine wa_id ?_ | exact True.intro | omega))
  refine WA_block (c := (fcd Tryz.f14 [1, 1, 0, 1, 0])) ?_
  refine WA_seq (x := (fcd Tryz.f14 [1, 1, 0, 1, 0, 0])) (y := (fcd Tryz.f14 [1, 1, 0, 1, 0, 1])) ?_
  refine WA_seq (x := (fcd Tryz.f14 [1, 1, 0, 1, 0, 0, 0])) (y := (fcd Tryz.f14 [1, 1, 0, 1, 0, 0, 1])) ?_
  refine V_regionZ Γ Δ Θ [] [0, 1, 2, 3, 4, 5, 6, 7, 10, 11, 12, 13, 14, 22, 23, 46, 47, 48, 57, 74, 90, 91] (evs ?_)
  all_goals (try with_reducible (repeat' (first | apply And.intro | intro _)))
  all_goals (try (first | with_reducible refine wa_id ?_ | exact True.intro | omega))
  refine V_cond (evs ?_)
  refine ⟨fun hc => by exact absurd hc (by omega), fun hc => ?_⟩
  refine V_regionZ Γ Δ Θ [] [0, 1, 2, 3, 4, 5, 6, 7, 10, 11, 12, 13, 14, 22, 23, 46, 47, 48, 57, 74, 90, 91] (evs ?_)
  all_goals (try with_reducible (repeat' (first | apply And.intro | intro _)))
  all_goals (try (first | with_reducible refine wa_id ?_ | exact True.intro | omega))
  refine V_cond (evs ?_)
  refine ⟨fun hc => by exact absurd hc (by omega), fun hc => ?_⟩
  refine WA_seq (x := (fcd Tryz.f14 [1, 1, 0, 1, 0, 1, 1, 0])) (y := (fcd Tryz.f14 [1, 1, 0, 1, 0, 1, 1, 1])) ?_
  refine V_regionZ Γ Δ Θ [] [0, 1, 2, 3, 4, 5, 6, 7, 10, 11, 12, 13, 14, 22, 23, 46, 47, 48, 57, 74, 90, 91] (evs ?_)
  all_goals (try with_reducible (repeat' (first | apply And.intro | intro _)))
  all_goals (try (first | with_reducible refine wa_id ?_ | exact True.intro | omega))
  refine V_cond (evs ?_)
  refine ⟨fun hc => by exact absurd hc (by omega), fun hc => ?_⟩
  refine WA_seq (x := (fcd Tryz.f14 [1, 1, 0, 1, 0, 1, 1, 1, 1, 0])) (y := (fcd Tryz.f14 [1, 1, 0, 1, 0, 1, 1, 1, 1, 1])) ?_
  refine WA_seq (x := (fcd Tryz.f14 [1, 1, 0, 1, 0, 1, 1, 1, 1, 0, 0])) (y := (fcd Tryz.f14 [1, 1, 0, 1, 0, 1, 1, 1, 1, 0, 1])) ?_
  refine V_regionZ Γ Δ Θ [] [0, 1, 2, 3, 4, 5, 6, 7, 10, 11, 12, 13, 14, 22, 23, 46, 47, 48, 57, 74, 90, 91] (evs ?_)
  all_goals (try with_reducible (repeat' (first | apply And.intro | intro _)))
  all_goals (try (first | with_reducible refine wa_id ?_ | exact True.intro | omega))
  refine V_cond (evs ?_)
  refine ⟨fun hc => ?_, fun hc => ?_⟩
  · refine WA_skip ?_
    refine V_cond (evs ?_)
    refine ⟨fun hc => ?_, fun hc => by exact absurd hc (by omega)⟩
    refine WA_seq (x := (fcd Tryz.f14 [1, 1, 0, 1, 0, 1, 1, 1, 1, 1, 0, 0])) (y := (fcd Tryz.f14 [1, 1, 0, 1, 0, 1, 1, 1, 1, 1, 0, 1])) ?_
    refine V_regionZ Γ Δ Θ [] [0, 1, 2, 3, 4, 5, 6, 7, 10, 11, 12, 13, 14, 22, 23, 46, 47, 48, 57, 74, 90, 91] (evs ?_)
    all_goals (try with_reducible (repeat' (first | apply And.intro | intro _)))
    all_goals (try (first | with_reducible refine wa_id ?_ | exact True.intro | omega))
    refine WA_seq (x := (fcd Tryz.f14 [1, 1, 0, 1, 0, 1, 1, 1, 1, 1, 0, 1, 0])) (y := (fcd Tryz.f14 [1, 1, 0, 1, 0, 1, 1, 1, 1, 1, 0, 1, 1])) ?_
    refine V_regionZ Γ Δ Θ [] [0, 1, 2, 3, 4, 5, 6, 7, 10, 11, 12, 13, 14, 22, 23, 46, 47, 48, 57, 74, 90, 91] (evs ?_)
    (try simp (maxSteps := 10000000) (disch := omega) only [w64])
    all_goals (try with_reducible (repeat' (first | apply And.intro | intro _)))
    all_goals (try (first | with_reducible refine wa_id ?_ | exact True.intro | omega))
    refine WA_seq (x := (fcd Tryz.f14 [1, 1, 0, 1, 0, 1, 1, 1, 1, 1, 0, 1, 1, 0])) (y := (fcd Tryz.f14 [1, 1, 0, 1, 0, 1, 1, 1, 1, 1, 0, 1, 1, 1])) ?_
    refine V_regionZ Γ Δ Θ [] [0, 1, 2, 3, 4, 5, 6, 7, 10, 11, 12, 13, 14, 22, 23, 46, 47, 48, 57, 74, 90, 91] (evs ?_)
    all_goals (try with_reducible (repeat' (first | apply And.intro | intro _)))
    all_goals (try (first | with_reducible refine wa_id ?_ | exact True.intro | omega))
    refine WA_block (c := (fcd Tryz.f14 [1, 1, 0, 1, 0, 1, 1, 1, 1, 1, 0, 1, 1, 1, 0])) ?_
    refine V_loop (c := (fcd Tryz.f14 [1, 1, 0, 1, 0, 1, 1, 1, 1, 1, 0, 1, 1, 1, 0, 0])) (α := Int) [14, 90, 91] [21, 98] (fun q => [(90, .dat (.i q))]) (fun q => (nvH 3 64 i o bd k ps q)) (fun q => 0 ≤ q ∧ q ≤ 4) (fun q => (4 - q).toNat) 0 [(20000, none), (20001, none), (20002, none), (20003, none)] ?_ (evs ?_) ?_
    · omega
    · (try with_reducible (repeat' (first | apply And.intro | intro _)))
      all_goals (first | exact True.intro | omega | (first | rfl))
    · intro q hQ
      obtain rfl | rfl | rfl | rfl | rfl : q = 0 ∨ q = 1 ∨ q = 2 ∨ q = 3 ∨ q = 4 := by omega
      · refine WA_seq (x := (fcd Tryz.f14 [1, 1, 0, 1, 0, 1, 1, 1, 1, 1, 0, 1, 1, 1, 0, 0, 0])) (y := (fcd Tryz.f14 [1, 1, 0, 1, 0, 1, 1, 1, 1, 1, 0, 1, 1, 1, 0, 0, 1])) ?_
        refine V_regionZ Γ Δ Θ [] [0, 1, 2, 3, 4, 5, 6, 7, 10, 11, 12, 13, 14, 22, 23, 46, 47, 48, 57, 74, 90, 91] (evs ?_)
        all_goals (try with_reducible (repeat' (first | apply And.intro | intro _)))
        all_goals (try (first | with_reducible refine wa_id ?_ | exact True.intro | omega))
        refine WA_seq (x := (fcd Tryz.f14 [1, 1, 0, 1, 0, 1, 1, 1, 1, 1, 0, 1, 1, 1, 0, 0, 1, 0])) (y := (fcd Tryz.f14 [1, 1, 0, 1, 0, 1, 1, 1, 1, 1, 0, 1, 1, 1, 0, 0, 1, 1])) ?_
        refine V_cond (evs ?_)
        refine ⟨fun hc => ?_, fun hc => by exact absurd hc (by omega)⟩
        refine WA_skip ?_
        refine WA_seq (x := (fcd Tryz.f14 [1, 1, 0, 1, 0, 1, 1, 1, 1, 1, 0, 1, 1, 1, 0, 0, 1, 1, 0])) (y := (fcd Tryz.f14 [1, 1, 0, 1, 0, 1, 1, 1, 1, 1, 0, 1, 1, 1, 0, 0, 1, 1, 1])) ?_
        refine WA_block (c := (fcd Tryz.f14 [1, 1, 0, 1, 0, 1, 1, 1, 1, 1, 0, 1, 1, 1, 0, 0, 1, 1, 0, 0])) ?_
        refine WA_seq (x := (fcd Tryz.f14 [1, 1, 0, 1, 0, 1, 1, 1, 1, 1, 0, 1, 1, 1, 0, 0, 1, 1, 0, 0, 0])) (y := (fcd Tryz.f14 [1, 1, 0, 1, 0, 1, 1, 1, 1, 1, 0, 1, 1, 1, 0, 0, 1, 1, 0, 0, 1])) ?_
        refine V_regionZ Γ Δ Θ [] [0, 1, 2, 3, 4, 5, 6, 7, 10, 11, 12, 13, 14, 22, 23, 46, 47, 48, 57, 74, 90, 91] (evs ?_)
        all_goals (try with_reducible (repeat' (first | apply And.intro | intro _)))
        all_goals (try (first | with_reducible refine wa_id ?_ | exact True.intro | omega))
        refine V_draw Γ [] [0, 1, 2, 3, 4, 5, 6, 7, 10, 11, 12, 13, 14, 22, 23, 46, 47, 48, 57, 74, 90, 91] mixed (by kernel_rfl) (evs ?_)
        have sq := rk_sq hg1.2.1 hg1.2.2.1
        (try simp (maxSteps := 10000000) (disch := omega) only [w64])
        all_goals (try with_reducible (repeat' (first | apply And.intro | intro _)))
        all_goals (try (first | with_reducible refine wa_id ?_ | exact True.intro | omega))
        refine V_regionZ Γ Δ Θ [] [0, 1, 2, 3, 4, 5, 6, 7, 10, 11, 12, 13, 14, 22, 23, 46, 47, 48, 57, 74, 90, 91] (evs ?_)
        (try simp (maxSteps := 10000000) (disch := omega) only [w64])
        all_goals (try with_reducible (repeat' (first | apply And.intro | intro _)))
        all_goals (try (first | with_reducible refine wa_id ?_ | exact True.intro | omega))
        refine V_next [(20000, some 98)] 1 (evs ?_) ?_ ?_
        all_goals (try with_reducible (repeat' (first | apply And.intro | intro _)))
        all_goals (first | exact True.intro | omega | (first | rfl))
      · refine WA_seq (x := (fcd Tryz.f14 [1, 1, 0, 1, 0, 1, 1, 1, 1, 1, 0, 1, 1, 1, 0, 0, 0])) (y := (fcd Tryz.f14 [1, 1, 0, 1, 0, 1, 1, 1, 1, 1, 0, 1, 1, 1, 0, 0, 1])) ?_
        refine V_regionZ Γ Δ Θ [] [0, 1, 2, 3, 4, 5, 6, 7, 10, 11, 12, 13, 14, 22, 23, 46, 47, 48, 57, 74, 90, 91] (evs ?_)
        all_goals (try with_reducible (repeat' (first | apply And.intro | intro _)))
        all_goals (try (first | with_reducible refine wa_id ?_ | exact True.intro | omega))
        refine WA_seq (x := (fcd Tryz.f14 [1, 1, 0, 1, 0, 1, 1, 1, 1, 1, 0, 1, 1, 1, 0, 0, 1, 0])) (y := (fcd Tryz.f14 [1, 1, 0, 1, 0, 1, 1, 1, 1, 1, 0, 1, 1, 1, 0, 0, 1, 1])) ?_
        refine V_cond (evs ?_)
        refine ⟨fun hc => ?_, fun hc => by exact absurd hc (by omega)⟩
        refine WA_skip ?_
        refine WA_seq (x := (fcd Tryz.f14 [1, 1, 0, 1, 0, 1, 1, 1, 1, 1, 0, 1, 1, 1, 0, 0, 1, 1, 0])) (y := (fcd Tryz.f14 [1, 1, 0, 1, 0, 1, 1, 1, 1, 1, 0, 1, 1, 1, 0, 0, 1, 1, 1])) ?_
        refine WA_block (c := (fcd Tryz.f14 [1, 1, 0, 1, 0, 1, 1, 1, 1, 1, 0, 1, 1, 1, 0, 0, 1, 1, 0, 0])) ?_
        refine WA_seq (x := (fcd Tryz.f14 [1, 1, 0, 1, 0, 1, 1, 1, 1, 1, 0, 1, 1, 1, 0, 0, 1, 1, 0, 0, 0])) (y := (fcd Tryz.f14 [1, 1, 0, 1, 0, 1, 1, 1, 1, 1, 0, 1, 1, 1, 0, 0, 1, 1, 0, 0, 1])) ?_
        refine V_regionZ Γ Δ Θ [] [0, 1, 2, 3, 4, 5, 6, 7, 10, 11, 12, 13, 14, 22, 23, 46, 47, 48, 57, 74, 90, 91] (evs ?_)
        all_goals (try with_reducible (repeat' (first | apply And.intro | intro _)))
        all_goals (try (first | with_reducible refine wa_id ?_ | exact True.intro | omega))
        refine V_draw Γ [] [0, 1, 2, 3, 4, 5, 6, 7, 10, 11, 12, 13, 14, 22, 23, 46, 47, 48, 57, 74, 90, 91] mixed (by kernel_rfl) (evs ?_)
        have sq := rk_sq hg1.2.1 hg1.2.2.1
        (try simp (maxSteps := 10000000) (disch := omega) only [w64])
        all_goals (try with_reducible (repeat' (first | apply And.intro | intro _)))
        all_goals (try (first | with_reducible refine wa_id ?_ | exact True.intro | omega))
        refine V_regionZ Γ Δ Θ [] [0, 1, 2, 3, 4, 5, 6, 7, 10, 11, 12, 13, 14, 22, 23, 46, 47, 48, 57, 74, 90, 91] (evs ?_)
        (try simp (maxSteps := 10000000) (disch := omega) only [w64])
        all_goals (try with_reducible (repeat' (first | apply And.intro | intro _)))
        all_goals (try (first | with_reducible refine wa_id ?_ | exact True.intro | omega))
        refine V_next [(20001, some 98)] 2 (evs ?_) ?_ ?_
        all_goals (try with_reducible (repeat' (first | apply And.intro | intro _)))
        all_goals (first | exact True.intro | omega | (first | rfl))
      · refine WA_seq (x := (fcd Tryz.f14 [1, 1, 0, 1, 0, 1, 1, 1, 1, 1, 0, 1, 1, 1, 0, 0, 0])) (y := (fcd Tryz.f14 [1, 1, 0, 1, 0, 1, 1, 1, 1, 1, 0, 1, 1, 1, 0, 0, 1])) ?_
        refine V_regionZ Γ Δ Θ [] [0, 1, 2, 3, 4, 5, 6, 7, 10, 11, 12, 13, 14, 22, 23, 46, 47, 48, 57, 74, 90, 91] (evs ?_)
        all_goals (try with_reducible (repeat' (first | apply And.intro | intro _)))
        all_goals (try (first | with_reducible refine wa_id ?_ | exact True.intro | omega))
        refine WA_seq (x := (fcd Tryz.f14 [1, 1, 0, 1, 0, 1, 1, 1, 1, 1, 0, 1, 1, 1, 0, 0, 1, 0])) (y := (fcd Tryz.f14 [1, 1, 0, 1, 0, 1, 1, 1, 1, 1, 0, 1, 1, 1, 0, 0, 1, 1])) ?_
        refine V_cond (evs ?_)
        refine ⟨fun hc => ?_, fun hc => by exact absurd hc (by omega)⟩
        refine WA_skip ?_
        refine WA_seq (x := (fcd Tryz.f14 [1, 1, 0, 1, 0, 1, 1, 1, 1, 1, 0, 1, 1, 1, 0, 0, 1, 1, 0])) (y := (fcd Tryz.f14 [1, 1, 0, 1, 0, 1, 1, 1, 1, 1, 0, 1, 1, 1, 0, 0, 1, 1, 1])) ?_
        refine WA_block (c := (fcd Tryz.f14 [1, 1, 0, 1, 0, 1, 1, 1, 1, 1, 0, 1, 1, 1, 0, 0, 1, 1, 0, 0])) ?_
        refine WA_seq (x := (fcd Tryz.f14 [1, 1, 0, 1, 0, 1, 1, 1, 1, 1, 0, 1, 1, 1, 0, 0, 1, 1, 0, 0, 0])) (y := (fcd Tryz.f14 [1, 1, 0, 1, 0, 1, 1, 1, 1, 1, 0, 1, 1, 1, 0, 0, 1, 1, 0, 0, 1])) ?_
        refine V_regionZ Γ Δ Θ [] [0, 1, 2, 3, 4, 5, 6, 7, 10, 11, 12, 13, 14, 22, 23, 46, 47, 48, 57, 74, 90, 91] (evs ?_)
        all_goals (try with_reducible (repeat' (first | apply And.intro | intro _)))
        all_goals (try (first | with_reducible refine wa_id ?_ | exact True.intro | omega))
        refine V_draw Γ [] [0, 1, 2, 3, 4, 5, 6, 7, 10, 11, 12, 13, 14, 22, 23, 46, 47, 48, 57, 74, 90, 91] mixed (by kernel_rfl) (evs ?_)
        have sq := rk_sq hg1.2.1 hg1.2.2.1
        (try simp (maxSteps := 10000000) (disch := omega) only [w64])
        all_goals (try with_reducible (repeat' (first | apply And.intro | intro _)))
        all_goals (try (first | with_reducible refine wa_id ?_ | exact True.intro | omega))
        refine V_regionZ Γ Δ Θ [] [0, 1, 2, 3, 4, 5, 6, 7, 10, 11, 12, 13, 14, 22, 23, 46, 47, 48, 57, 74, 90, 91] (evs ?_)
        (try simp (maxSteps := 10000000) (disch := omega) only [w64])
        all_goals (try with_reducible (repeat' (first | apply And.intro | intro _)))
        all_goals (try (first | with_reducible refine wa_id ?_ | exact True.intro | omega))
        refine V_next [(20002, some 98)] 3 (evs ?_) ?_ ?_
        all_goals (try with_reducible (repeat' (first | apply And.intro | intro _)))
        all_goals (first | exact True.intro | omega | (first | rfl))
      · refine WA_seq (x := (fcd Tryz.f14 [1, 1, 0, 1, 0, 1, 1, 1, 1, 1, 0, 1, 1, 1, 0, 0, 0])) (y := (fcd Tryz.f14 [1, 1, 0, 1, 0, 1, 1, 1, 1, 1, 0, 1, 1, 1, 0, 0, 1])) ?_
        refine V_regionZ Γ Δ Θ [] [0, 1, 2, 3, 4, 5, 6, 7, 10, 11, 12, 13, 14, 22, 23, 46, 47, 48, 57, 74, 90, 91] (evs ?_)
        all_goals (try with_reducible (repeat' (first | apply And.intro | intro _)))
        all_goals (try (first | with_reducible refine wa_id ?_ | exact True.intro | omega))
        refine WA_seq (x := (fcd Tryz.f14 [1, 1, 0, 1, 0, 1, 1, 1, 1, 1, 0, 1, 1, 1, 0, 0, 1, 0])) (y := (fcd Tryz.f14 [1, 1, 0, 1, 0, 1, 1, 1, 1, 1, 0, 1, 1, 1, 0, 0, 1, 1])) ?_
        refine V_cond (evs ?_)
        refine ⟨fun hc => ?_, fun hc => by exact absurd hc (by omega)⟩
        refine WA_skip ?_
        refine WA_seq (x := (fcd Tryz.f14 [1, 1, 0, 1, 0, 1, 1, 1, 1, 1, 0, 1, 1, 1, 0, 0, 1, 1, 0])) (y := (fcd Tryz.f14 [1, 1, 0, 1, 0, 1, 1, 1, 1, 1, 0, 1, 1, 1, 0, 0, 1, 1, 1])) ?_
        refine WA_block (c := (fcd Tryz.f14 [1, 1, 0, 1, 0, 1, 1, 1, 1, 1, 0, 1, 1, 1, 0, 0, 1, 1, 0, 0])) ?_
        refine WA_seq (x := (fcd Tryz.f14 [1, 1, 0, 1, 0, 1, 1, 1, 1, 1, 0, 1, 1, 1, 0, 0, 1, 1, 0, 0, 0])) (y := (fcd Tryz.f14 [1, 1, 0, 1, 0, 1, 1, 1, 1, 1, 0, 1, 1, 1, 0, 0, 1, 1, 0, 0, 1])) ?_
        refine V_regionZ Γ Δ Θ [] [0, 1, 2, 3, 4, 5, 6, 7, 10, 11, 12, 13, 14, 22, 23, 46, 47, 48, 57, 74, 90, 91] (evs ?_)
        all_goals (try with_reducible (repeat' (first | apply And.intro | intro _)))
        all_goals (try (first | with_reducible refine wa_id ?_ | exact True.intro | omega))
        refine V_draw Γ [] [0, 1, 2, 3, 4, 5, 6, 7, 10, 11, 12, 13, 14, 22, 23, 46, 47, 48, 57, 74, 90, 91] mixed (by kernel_rfl) (evs ?_)
        have sq := rk_sq hg1.2.1 hg1.2.2.1
        (try simp (maxSteps := 10000000) (disch := omega) only [w64])
        all_goals (try with_reducible (repeat' (first | apply And.intro | intro _)))
        all_goals (try (first | with_reducible refine wa_id ?_ | exact True.intro | omega))
        refine V_regionZ Γ Δ Θ [] [0, 1, 2, 3, 4, 5, 6, 7, 10, 11, 12, 13, 14, 22, 23, 46, 47, 48, 57, 74, 90, 91] (evs ?_)
        (try simp (maxSteps := 10000000) (disch := omega) only [w64])
        all_goals (try with_reducible (repeat' (first | apply And.intro | intro _)))
        all_goals (try (first | with_reducible refine wa_id ?_ | exact True.intro | omega))
        refine V_next [(20003, some 98)] 4 (evs ?_) ?_ ?_
        all_goals (try with_reducible (repeat' (first | apply And.intro | intro _)))
        all_goals (first | exact True.intro | omega | (first | rfl))
      · refine WA_seq (x := (fcd Tryz.f14 [1, 1, 0, 1, 0, 1, 1, 1, 1, 1, 0, 1, 1, 1, 0, 0, 0])) (y := (fcd Tryz.f14 [1, 1, 0, 1, 0, 1, 1, 1, 1, 1, 0, 1, 1, 1, 0, 0, 1])) ?_
        refine V_regionZ Γ Δ Θ [] [0, 1, 2, 3, 4, 5, 6, 7, 10, 11, 12, 13, 14, 22, 23, 46, 47, 48, 57, 74, 90, 91] (evs ?_)
        all_goals (try with_reducible (repeat' (first | apply And.intro | intro _)))
        all_goals (try (first | with_reducible refine wa_id ?_ | exact True.intro | omega))
        refine WA_seq (x := (fcd Tryz.f14 [1, 1, 0, 1, 0, 1, 1, 1, 1, 1, 0, 1, 1, 1, 0, 0, 1, 0])) (y := (fcd Tryz.f14 [1, 1, 0, 1, 0, 1, 1, 1, 1, 1, 0, 1, 1, 1, 0, 0, 1, 1])) ?_
        refine V_cond (evs ?_)
        refine ⟨fun hc => by exact absurd hc (by omega), fun hc => ?_⟩
        refine V_exit (evs ?_)
        refine WA_seq (x := (fcd Tryz.f14 [1, 1, 1, 0])) (y := (fcd Tryz.f14 [1, 1, 1, 1])) ?_
        refine V_regionZ Γ Δ Θ [] [0, 1, 2, 3, 4, 5, 6, 7, 10, 11, 12, 13, 14, 22, 23, 46, 47, 48, 57, 74, 90, 91] (evs ?_)
        all_goals (try with_reducible (repeat' (first | apply And.intro | intro _)))
        all_goals (try (first | with_reducible refine wa_id ?_ | exact True.intro | omega))
        refine WA_ret (V_retZ [(30000, some 21), (30001, some 20000), (30002, some 20001), (30003, some 20002), (30004, some 20003)] () (evs ?_) ?_)
        all_goals (first | trivial | rfl | exact ⟨rfl, rfl, rfl, rfl⟩)
  · refine WA_seq (x := (fcd Tryz.f14 [1, 1, 0, 1, 0, 1, 1, 1, 1, 0, 1, 1, 0])) (y := (fcd Tryz.f14 [1, 1, 0, 1, 0, 1, 1, 1, 1, 0, 1, 1, 1])) ?_
    refine V_regionZ Γ Δ Θ [] [0, 1, 2, 3, 4, 5, 6, 7, 10, 11, 12, 13, 14, 22, 23, 46, 47, 48, 57, 74, 90, 91] (evs ?_)
    all_goals (try with_reducible (repeat' (first | apply And.intro | intro _)))
    all_goals (try (first | with_reducible refine wa_id ?_ | exact True.intro | omega))
    refine V_cond (evs ?_)
    refine ⟨fun hc => ?_, fun hc => ?_⟩
    · refine WA_skip ?_
      refine V_cond (evs ?_)
      refine ⟨fun hc => ?_, fun hc => by exact absurd hc (by omega)⟩
      refine WA_seq (x := (fcd Tryz.f14 [1, 1, 0, 1, 0, 1, 1, 1, 1, 1, 0, 0])) (y := (fcd Tryz.f14 [1, 1, 0, 1, 0, 1, 1, 1, 1, 1, 0, 1])) ?_
      refine V_regionZ Γ Δ Θ [] [0, 1, 2, 3, 4, 5, 6, 7, 10, 11, 12, 13, 14, 22, 23, 46, 47, 48, 57, 74, 90, 91] (evs ?_)
      all_goals (try with_reducible (repeat' (first | apply And.intro | intro _)))
      all_goals (try (first | with_reducible refine wa_id ?_ | exact True.intro | omega))
      refine WA_seq (x := (fcd Tryz.f14 [1, 1, 0, 1, 0, 1, 1, 1, 1, 1, 0, 1, 0])) (y := (fcd Tryz.f14 [1, 1, 0, 1, 0, 1, 1, 1, 1, 1, 0, 1, 1])) ?_
      refine V_regionZ Γ Δ Θ [] [0, 1, 2, 3, 4, 5, 6, 7, 10, 11, 12, 13, 14, 22, 23, 46, 47, 48, 57, 74, 90, 91] (evs ?_)
      (try simp (maxSteps := 10000000) (disch := omega) only [w64])
      all_goals (try with_reducible (repeat' (first | apply And.intro | intro _)))
      all_goals (try (first | with_reducible refine wa_id ?_ | exact True.intro | omega))
      refine WA_seq (x := (fcd Tryz.f14 [1, 1, 0, 1, 0, 1, 1, 1, 1, 1, 0, 1, 1, 0])) (y := (fcd Tryz.f14 [1, 1, 0, 1, 0, 1, 1, 1, 1, 1, 0, 1, 1, 1])) ?_
      refine V_regionZ Γ Δ Θ [] [0, 1, 2, 3, 4, 5, 6, 7, 10, 11, 12, 13, 14, 22, 23, 46, 47, 48, 57, 74, 90, 91] (evs ?_)
      all_goals (try with_reducible (repeat' (first | apply And.intro | intro _)))
      all_goals (try (first | with_reducible refine wa_id ?_ | exact True.intro | omega))
      refine WA_block (c := (fcd Tryz.f14 [1, 1, 0, 1, 0, 1, 1, 1, 1, 1, 0, 1, 1, 1, 0])) ?_
      refine V_loop (c := (fcd Tryz.f14 [1, 1, 0, 1, 0, 1, 1, 1, 1, 1, 0, 1, 1, 1, 0, 0])) (α := Int) [14, 90, 91] [21, 98] (fun q => [(90, .dat (.i q))]) (fun q => (nvH 3 64 i o bd k ps q)) (fun q => 0 ≤ q ∧ q ≤ 4) (fun q => (4 - q).toNat) 0 [(20000, none), (20001, none), (20002, none), (20003, none)] ?_ (evs ?_) ?_
      · omega
      · (try with_reducible (repeat' (first | apply And.intro | intro _)))
        all_goals (first | exact True.intro | omega | (first | rfl))
      · intro q hQ
        obtain rfl | rfl | rfl | rfl | rfl : q = 0 ∨ q = 1 ∨ q = 2 ∨ q = 3 ∨ q = 4 := by omega
        · refine WA_seq (x := (fcd Tryz.f14 [1, 1, 0, 1, 0, 1, 1, 1, 1, 1, 0, 1, 1, 1, 0, 0, 0])) (y := (fcd Tryz.f14 [1, 1, 0, 1, 0, 1, 1, 1, 1, 1, 0, 1, 1, 1, 0, 0, 1])) ?_
          refine V_regionZ Γ Δ Θ [] [0, 1, 2, 3, 4, 5, 6, 7, 10, 11, 12, 13, 14, 22, 23, 46, 47, 48, 57, 74, 90, 91] (evs ?_)
          all_goals (try with_reducible (repeat' (first | apply And.intro | intro _)))
          all_goals (try (first | with_reducible refine wa_id ?_ | exact True.intro | omega))
          refine WA_seq (x := (fcd Tryz.f14 [1, 1, 0, 1, 0, 1, 1, 1, 1, 1, 0, 1, 1, 1, 0, 0, 1, 0])) (y := (fcd Tryz.f14 [1, 1, 0, 1, 0, 1, 1, 1, 1, 1, 0, 1, 1, 1, 0, 0, 1, 1])) ?_
          refine V_cond (evs ?_)
          refine ⟨fun hc => ?_, fun hc => by exact absurd hc (by omega)⟩
          refine WA_skip ?_
          refine WA_seq (x := (fcd Tryz.f14 [1, 1, 0, 1, 0, 1, 1, 1, 1, 1, 0, 1, 1, 1, 0, 0, 1, 1, 0])) (y := (fcd Tryz.f14 [1, 1, 0, 1, 0, 1, 1, 1, 1, 1, 0, 1, 1, 1, 0, 0, 1, 1, 1])) ?_
          refine WA_block (c := (fcd Tryz.f14 [1, 1, 0, 1, 0, 1, 1, 1, 1, 1, 0, 1, 1, 1, 0, 0, 1, 1, 0, 0])) ?_
          refine WA_seq (x := (fcd Tryz.f14 [1, 1, 0, 1, 0, 1, 1, 1, 1, 1, 0, 1, 1, 1, 0, 0, 1, 1, 0, 0, 0])) (y := (fcd Tryz.f14 [1, 1, 0, 1, 0, 1, 1, 1, 1, 1, 0, 1, 1, 1, 0, 0, 1, 1, 0, 0, 1])) ?_
          refine V_regionZ Γ Δ Θ [] [0, 1, 2, 3, 4, 5, 6, 7, 10, 11, 12, 13, 14, 22, 23, 46, 47, 48, 57, 74, 90, 91] (evs ?_)
          all_goals (try with_reducible (repeat' (first | apply And.intro | intro _)))
          all_goals (try (first | with_reducible refine wa_id ?_ | exact True.intro | omega))
          refine V_draw Γ [] [0, 1, 2, 3, 4, 5, 6, 7, 10, 11, 12, 13, 14, 22, 23, 46, 47, 48, 57, 74, 90, 91] mixed (by kernel_rfl) (evs ?_)
          have sq := rk_sq hg1.2.1 hg1.2.2.1
          (try simp (maxSteps := 10000000) (disch := omega) only [w64])
          all_goals (try with_reducible (repeat' (first | apply And.intro | intro _)))
          all_goals (try (first | with_reducible refine wa_id ?_ | exact True.intro | omega))
          refine V_regionZ Γ Δ Θ [] [0, 1, 2, 3, 4, 5, 6, 7, 10, 11, 12, 13, 14, 22, 23, 46, 47, 48, 57, 74, 90, 91] (evs ?_)
          (try simp (maxSteps := 10000000) (disch := omega) only [w64])
          all_goals (try with_reducible (repeat' (first | apply And.intro | intro _)))
          all_goals (try (first | with_reducible refine wa_id ?_ | exact True.intro | omega))
          refine V_next [(20000, some 98)] 1 (evs ?_) ?_ ?_
          all_goals (try with_reducible (repeat' (first | apply And.intro | intro _)))
          all_goals (first | exact True.intro | omega | (first | rfl))
        · refine WA_seq (x := (fcd Tryz.f14 [1, 1, 0, 1, 0, 1, 1, 1, 1, 1, 0, 1, 1, 1, 0, 0, 0])) (y := (fcd Tryz.f14 [1, 1, 0, 1, 0, 1, 1, 1, 1, 1, 0, 1, 1, 1, 0, 0, 1])) ?_
          refine V_regionZ Γ Δ Θ [] [0, 1, 2, 3, 4, 5, 6, 7, 10, 11, 12, 13, 14, 22, 23, 46, 47, 48, 57, 74, 90, 91] (evs ?_)
          all_goals (try with_reducible (repeat' (first | apply And.intro | intro _)))
          all_goals (try (first | with_reducible refine wa_id ?_ | exact True.intro | omega))
          refine WA_seq (x := (fcd Tryz.f14 [1, 1, 0, 1, 0, 1, 1, 1, 1, 1, 0, 1, 1, 1, 0, 0, 1, 0])) (y := (fcd Tryz.f14 [1, 1, 0, 1, 0, 1, 1, 1, 1, 1, 0, 1, 1, 1, 0, 0, 1, 1])) ?_
          refine V_cond (evs ?_)
          refine ⟨fun hc => ?_, fun hc => by exact absurd hc (by omega)⟩
          refine WA_skip ?_
          refine WA_seq (x := (fcd Tryz.f14 [1, 1, 0, 1, 0, 1, 1, 1, 1, 1, 0, 1, 1, 1, 0, 0, 1, 1, 0])) (y := (fcd Tryz.f14 [1, 1, 0, 1, 0, 1, 1, 1, 1, 1, 0, 1, 1, 1, 0, 0, 1, 1, 1])) ?_
          refine WA_block (c := (fcd Tryz.f14 [1, 1, 0, 1, 0, 1, 1, 1, 1, 1, 0, 1, 1, 1, 0, 0, 1, 1, 0, 0])) ?_
          refine WA_seq (x := (fcd Tryz.f14 [1, 1, 0, 1, 0, 1, 1, 1, 1, 1, 0, 1, 1, 1, 0, 0, 1, 1, 0, 0, 0])) (y := (fcd Tryz.f14 [1, 1, 0, 1, 0, 1, 1, 1, 1, 1, 0, 1, 1, 1, 0, 0, 1, 1, 0, 0, 1])) ?_
          refine V_regionZ Γ Δ Θ [] [0, 1, 2, 3, 4, 5, 6, 7, 10, 11, 12, 13, 14, 22, 23, 46, 47, 48, 57, 74, 90, 91] (evs ?_)
          all_goals (try with_reducible (repeat' (first | apply And.intro | intro _)))
          all_goals (try (first | with_reducible refine wa_id ?_ | exact True.intro | omega))
          refine V_draw Γ [] [0, 1, 2, 3, 4, 5, 6, 7, 10, 11, 12, 13, 14, 22, 23, 46, 47, 48, 57, 74, 90, 91] mixed (by kernel_rfl) (evs ?_)
          have sq := rk_sq hg1.2.1 hg1.2.2.1
          (try simp (maxSteps := 10000000) (disch := omega) only [w64])
          all_goals (try with_reducible (repeat' (first | apply And.intro | intro _)))
          all_goals (try (first | with_reducible refine wa_id ?_ | exact True.intro | omega))
          refine V_regionZ Γ Δ Θ [] [0, 1, 2, 3, 4, 5, 6, 7, 10, 11, 12, 13, 14, 22, 23, 46, 47, 48, 57, 74, 90, 91] (evs ?_)
          (try simp (maxSteps := 10000000) (disch := omega) only [w64])
          all_goals (try with_reducible (repeat' (first | apply And.intro | intro _)))
          all_goals (try (first | with_reducible refine wa_id ?_ | exact True.intro | omega))
          refine V_next [(20001, some 98)] 2 (evs ?_) ?_ ?_
          all_goals (try with_reducible (repeat' (first | apply And.intro | intro _)))
          all_goals (first | exact True.intro | omega | (first | rfl))
        · refine WA_seq (x := (fcd Tryz.f14 [1, 1, 0, 1, 0, 1, 1, 1, 1, 1, 0, 1, 1, 1, 0, 0, 0])) (y := (fcd Tryz.f14 [1, 1, 0, 1, 0, 1, 1, 1, 1, 1, 0, 1, 1, 1, 0, 0, 1])) ?_
          refine V_regionZ Γ Δ Θ [] [0, 1, 2, 3, 4, 5, 6, 7, 10, 11, 12, 13, 14, 22, 23, 46, 47, 48, 57, 74, 90, 91] (evs ?_)
          all_goals (try with_reducible (repeat' (first | apply And.intro | intro _)))
          all_goals (try (first | with_reducible refine wa_id ?_ | exact True.intro | omega))
          refine WA_seq (x := (fcd Tryz.f14 [1, 1, 0, 1, 0, 1, 1, 1, 1, 1, 0, 1, 1, 1, 0, 0, 1, 0])) (y := (fcd Tryz.f14 [1, 1, 0, 1, 0, 1, 1, 1, 1, 1, 0, 1, 1, 1, 0, 0, 1, 1])) ?_
          refine V_cond (evs ?_)
          refine ⟨fun hc => ?_, fun hc => by exact absurd hc (by omega)⟩
          refine WA_skip ?_
          refine WA_seq (x := (fcd Tryz.f14 [1, 1, 0, 1, 0, 1, 1, 1, 1, 1, 0, 1, 1, 1, 0, 0, 1, 1, 0])) (y := (fcd Tryz.f14 [1, 1, 0, 1, 0, 1, 1, 1, 1, 1, 0, 1, 1, 1, 0, 0, 1, 1, 1])) ?_
          refine WA_block (c := (fcd Tryz.f14 [1, 1, 0, 1, 0, 1, 1, 1, 1, 1, 0, 1, 1, 1, 0, 0, 1, 1, 0, 0])) ?_
          refine WA_seq (x := (fcd Tryz.f14 [1, 1, 0, 1, 0, 1, 1, 1, 1, 1, 0, 1, 1, 1, 0, 0, 1, 1, 0, 0, 0])) (y := (fcd Tryz.f14 [1, 1, 0, 1, 0, 1, 1, 1, 1, 1, 0, 1, 1, 1, 0, 0, 1, 1, 0, 0, 1])) ?_
          refine V_regionZ Γ Δ Θ [] [0, 1, 2, 3, 4, 5, 6, 7, 10, 11, 12, 13, 14, 22, 23, 46, 47, 48, 57, 74, 90, 91] (evs ?_)
          all_goals (try with_reducible (repeat' (first | apply And.intro | intro _)))
          all_goals (try (first | with_reducible refine wa_id ?_ | exact True.intro | omega))
          refine V_draw Γ [] [0, 1, 2, 3, 4, 5, 6, 7, 10, 11, 12, 13, 14, 22, 23, 46, 47, 48, 57, 74, 90, 91] mixed (by kernel_rfl) (evs ?_)
          have sq := rk_sq hg1.2.1 hg1.2.2.1
          (try simp (maxSteps := 10000000) (disch := omega) only [w64])
          all_goals (try with_reducible (repeat' (first | apply And.intro | intro _)))
          all_goals (try (first | with_reducible refine wa_id ?_ | exact True.intro | omega))
          refine V_regionZ Γ Δ Θ [] [0, 1, 2, 3, 4, 5, 6, 7, 10, 11, 12, 13, 14, 22, 23, 46, 47, 48, 57, 74, 90, 91] (evs ?_)
          (try simp (maxSteps := 10000000) (disch := omega) only [w64])
          all_goals (try with_reducible (repeat' (first | apply And.intro | intro _)))
          all_goals (try (first | with_reducible refine wa_id ?_ | exact True.intro | omega))
          refine V_next [(20002, some 98)] 3 (evs ?_) ?_ ?_
          all_goals (try with_reducible (repeat' (first | apply And.intro | intro _)))
          all_goals (first | exact True.intro | omega | (first | rfl))
        · refine WA_seq (x := (fcd Tryz.f14 [1, 1, 0, 1, 0, 1, 1, 1, 1, 1, 0, 1, 1, 1, 0, 0, 0])) (y := (fcd Tryz.f14 [1, 1, 0, 1, 0, 1, 1, 1, 1, 1, 0, 1, 1, 1, 0, 0, 1])) ?_
          refine V_regionZ Γ Δ Θ [] [0, 1, 2, 3, 4, 5, 6, 7, 10, 11, 12, 13, 14, 22, 23, 46, 47, 48, 57, 74, 90, 91] (evs ?_)
          all_goals (try with_reducible (repeat' (first | apply And.intro | intro _)))
          all_goals (try (first | with_reducible refine wa_id ?_ | exact True.intro | omega))
          refine WA_seq (x := (fcd Tryz.f14 [1, 1, 0, 1, 0, 1, 1, 1, 1, 1, 0, 1, 1, 1, 0, 0, 1, 0])) (y := (fcd Tryz.f14 [1, 1, 0, 1, 0, 1, 1, 1, 1, 1, 0, 1, 1, 1, 0, 0, 1, 1])) ?_
          refine V_cond (evs ?_)
          refine ⟨fun hc => ?_, fun hc => by exact absurd hc (by omega)⟩
          refine WA_skip ?_
          refine WA_seq (x := (fcd Tryz.f14 [1, 1, 0, 1, 0, 1, 1, 1, 1, 1, 0, 1, 1, 1, 0, 0, 1, 1, 0])) (y := (fcd Tryz.f14 [1, 1, 0, 1, 0, 1, 1, 1, 1, 1, 0, 1, 1, 1, 0, 0, 1, 1, 1])) ?_
          refine WA_block (c := (fcd Tryz.f14 [1, 1, 0, 1, 0, 1, 1, 1, 1, 1, 0, 1, 1, 1, 0, 0, 1, 1, 0, 0])) ?_
          refine WA_seq (x := (fcd Tryz.f14 [1, 1, 0, 1, 0, 1, 1, 1, 1, 1, 0, 1, 1, 1, 0, 0, 1, 1, 0, 0, 0])) (y := (fcd Tryz.f14 [1, 1, 0, 1, 0, 1, 1, 1, 1, 1, 0, 1, 1, 1, 0, 0, 1, 1, 0, 0, 1])) ?_
          refine V_regionZ Γ Δ Θ [] [0, 1, 2, 3, 4, 5, 6, 7, 10, 11, 12, 13, 14, 22, 23, 46, 47, 48, 57, 74, 90, 91] (evs ?_)
          all_goals (try with_reducible (repeat' (first | apply And.intro | intro _)))
          all_goals (try (first | with_reducible refine wa_id ?_ | exact True.intro | omega))
          refine V_draw Γ [] [0, 1, 2, 3, 4, 5, 6, 7, 10, 11, 12, 13, 14, 22, 23, 46, 47, 48, 57, 74, 90, 91] mixed (by kernel_rfl) (evs ?_)
          have sq := rk_sq hg1.2.1 hg1.2.2.1
          (try simp (maxSteps := 10000000) (disch := omega) only [w64])
          all_goals (try with_reducible (repeat' (first | apply And.intro | intro _)))
          all_goals (try (first | with_reducible refine wa_id ?_ | exact True.intro | omega))
          refine V_regionZ Γ Δ Θ [] [0, 1, 2, 3, 4, 5, 6, 7, 10, 11, 12, 13, 14, 22, 23, 46, 47, 48, 57, 74, 90, 91] (evs ?_)
          (try simp (maxSteps := 10000000) (disch := omega) only [w64])
          all_goals (try with_reducible (repeat' (first | apply And.intro | intro _)))
          all_goals (try (first | with_reducible refine wa_id ?_ | exact True.intro | omega))
          refine V_next [(20003, some 98)] 4 (evs ?_) ?_ ?_
          all_goals (try with_reducible (repeat' (first | apply And.intro | intro _)))
          all_goals (first | exact True.intro | omega | (first | rfl))
        · refine WA_seq (x := (fcd Tryz.f14 [1, 1, 0, 1, 0, 1, 1, 1, 1, 1, 0, 1, 1, 1, 0, 0, 0])) (y := (fcd Tryz.f14 [1, 1, 0, 1, 0, 1, 1, 1, 1, 1, 0, 1, 1, 1, 0, 0, 1])) ?_
          refine V_regionZ Γ Δ Θ [] [0, 1, 2, 3, 4, 5, 6, 7, 10, 11, 12, 13, 14, 22, 23, 46, 47, 48, 57, 74, 90, 91] (evs ?_)
          all_goals (try with_reducible (repeat' (first | apply And.intro | intro _)))
          all_goals (try (first | with_reducible refine wa_id ?_ | exact True.intro | omega))
          refine WA_seq (x := (fcd Tryz.f14 [1, 1, 0, 1, 0, 1, 1, 1, 1, 1, 0, 1, 1, 1, 0, 0, 1, 0])) (y := (fcd Tryz.f14 [1, 1, 0, 1, 0, 1, 1, 1, 1, 1, 0, 1, 1, 1, 0, 0, 1, 1])) ?_
          refine V_cond (evs ?_)
          refine ⟨fun hc => by exact absurd hc (by omega), fun hc => ?_⟩
          refine V_exit (evs ?_)
          refine WA_seq (x := (fcd Tryz.f14 [1, 1, 1, 0])) (y := (fcd Tryz.f14 [1, 1, 1, 1])) ?_
          refine V_regionZ Γ Δ Θ [] [0, 1, 2, 3, 4, 5, 6, 7, 10, 11, 12, 13, 14, 22, 23, 46, 47, 48, 57, 74, 90, 91] (evs ?_)
          all_goals (try with_reducible (repeat' (first | apply And.intro | intro _)))
          all_goals (try (first | with_reducible refine wa_id ?_ | exact True.intro | omega))
          refine WA_ret (V_retZ [(30000, some 21), (30001, some 20000), (30002, some 20001), (30003, some 20002), (30004, some 20003)] () (evs ?_) ?_)
          all_goals (first | trivial | rfl | exact ⟨rfl, rfl, rfl, rfl⟩)
    · refine V_regionZ Γ Δ Θ [] [0, 1, 2, 3, 4, 5, 6, 7, 10, 11, 12, 13, 14, 22, 23, 46, 47, 48, 57, 74, 90, 91] (evs ?_)
      all_goals (try with_reducible (repeat' (first | apply And.intro | intro _)))
      all_goals (try (first | with_reducible refine wa_id ?_ | exact True.intro | omega))
      refine V_cond (evs ?_)
      refine ⟨fun hc => ?_, fun hc => by exact absurd hc (by omega)⟩
      refine WA_seq (x := (fcd Tryz.f14 [1, 1, 0, 1, 0, 1, 1, 1, 1, 1, 0, 0])) (y := (fcd Tryz.f14 [1, 1, 0, 1, 0, 1, 1, 1, 1, 1, 0, 1])) ?_
      refine V_regionZ Γ Δ Θ [] [0, 1, 2, 3, 4, 5, 6, 7, 10, 11, 12, 13, 14, 22, 23, 46, 47, 48, 57, 74, 90, 91] (evs ?_)
      all_goals (try with_reducible (repeat' (first | apply And.intro | intro _)))
      all_goals (try (first | with_reducible refine wa_id ?_ | exact True.intro | omega))
      refine WA_seq (x := (fcd Tryz.f14 [1, 1, 0, 1, 0, 1, 1, 1, 1, 1, 0, 1, 0])) (y := (fcd Tryz.f14 [1, 1, 0, 1, 0, 1, 1, 1, 1, 1, 0, 1, 1])) ?_
      refine V_regionZ Γ Δ Θ [] [0, 1, 2, 3, 4, 5, 6, 7, 10, 11, 12, 13, 14, 22, 23, 46, 47, 48, 57, 74, 90, 91] (evs ?_)
      (try simp (maxSteps := 10000000) (disch := omega) only [w64])
      all_goals (try with_reducible (repeat' (first | apply And.intro | intro _)))
      all_goals (try (first | with_reducible refine wa_id ?_ | exact True.intro | omega))
      refine WA_seq (x := (fcd Tryz.f14 [1, 1, 0, 1, 0, 1, 1, 1, 1, 1, 0, 1, 1, 0])) (y := (fcd Tryz.f14 [1, 1, 0, 1, 0, 1, 1, 1, 1, 1, 0, 1, 1, 1])) ?_
      refine V_regionZ Γ Δ Θ [] [0, 1, 2, 3, 4, 5, 6, 7, 10, 11, 12, 13, 14, 22, 23, 46, 47, 48, 57, 74, 90, 91] (evs ?_)
      all_goals (try with_reducible (repeat' (first | apply And.intro | intro _)))
      all_goals (try (first | with_reducible refine wa_id ?_ | exact True.intro | omega))
      refine WA_block (c := (fcd Tryz.f14 [1, 1, 0, 1, 0, 1, 1, 1, 1, 1, 0, 1, 1, 1, 0])) ?_
      refine V_loop (c := (fcd Tryz.f14 [1, 1, 0, 1, 0, 1, 1, 1, 1, 1, 0, 1, 1, 1, 0, 0])) (α := Int) [14, 90, 91] [21, 98] (fun q => [(90, .dat (.i q))]) (fun q => (nvH 3 64 i o bd k ps q)) (fun q => 0 ≤ q ∧ q ≤ 4) (fun q => (4 - q).toNat) 0 [(20000, none), (20001, none), (20002, none), (20003, none)] ?_ (evs ?_) ?_
      · omega
      · (try with_reducible (repeat' (first | apply And.intro | intro _)))
        all_goals (first | exact True.intro | omega | (first | rfl))
      · intro q hQ
        obtain rfl | rfl | rfl | rfl | rfl : q = 0 ∨ q = 1 ∨ q = 2 ∨ q = 3 ∨ q = 4 := by omega
        · refine WA_seq (x := (fcd Tryz.f14 [1, 1, 0, 1, 0, 1, 1, 1, 1, 1, 0, 1, 1, 1, 0, 0, 0])) (y := (fcd Tryz.f14 [1, 1, 0, 1, 0, 1, 1, 1, 1, 1, 0, 1, 1, 1, 0, 0, 1])) ?_
          refine V_regionZ Γ Δ Θ [] [0, 1, 2, 3, 4, 5, 6, 7, 10, 11, 12, 13, 14, 22, 23, 46, 47, 48, 57, 74, 90, 91] (evs ?_)
          all_goals (try with_reducible (repeat' (first | apply And.intro | intro _)))
          all_goals (try (first | with_reducible refine wa_id ?_ | exact True.intro | omega))
          refine WA_seq (x := (fcd Tryz.f14 [1, 1, 0, 1, 0, 1, 1, 1, 1, 1, 0, 1, 1, 1, 0, 0, 1, 0])) (y := (fcd Tryz.f14 [1, 1, 0, 1, 0, 1, 1, 1, 1, 1, 0, 1, 1, 1, 0, 0, 1, 1])) ?_
          refine V_cond (evs ?_)
          refine ⟨fun hc => ?_, fun hc => by exact absurd hc (by omega)⟩
          refine WA_skip ?_
          refine WA_seq (x := (fcd Tryz.f14 [1, 1, 0, 1, 0, 1, 1, 1, 1, 1, 0, 1, 1, 1, 0, 0, 1, 1, 0])) (y := (fcd Tryz.f14 [1, 1, 0, 1, 0, 1, 1, 1, 1, 1, 0, 1, 1, 1, 0, 0, 1, 1, 1])) ?_
          refine WA_block (c := (fcd Tryz.f14 [1, 1, 0, 1, 0, 1, 1, 1, 1, 1, 0, 1, 1, 1, 0, 0, 1, 1, 0, 0])) ?_
          refine WA_seq (x := (fcd Tryz.f14 [1, 1, 0, 1, 0, 1, 1, 1, 1, 1, 0, 1, 1, 1, 0, 0, 1, 1, 0, 0, 0])) (y := (fcd Tryz.f14 [1, 1, 0, 1, 0, 1, 1, 1, 1, 1, 0, 1, 1, 1, 0, 0, 1, 1, 0, 0, 1])) ?_
          refine V_regionZ Γ Δ Θ [] [0, 1, 2, 3, 4, 5, 6, 7, 10, 11, 12, 13, 14, 22, 23, 46, 47, 48, 57, 74, 90, 91] (evs ?_)
          all_goals (try with_reducible (repeat' (first | apply And.intro | intro _)))
          all_goals (try (first | with_reducible refine wa_id ?_ | exact True.intro | omega))
          refine V_draw Γ [] [0, 1, 2, 3, 4, 5, 6, 7, 10, 11, 12, 13, 14, 22, 23, 46, 47, 48, 57, 74, 90, 91] mixed (by kernel_rfl) (evs ?_)
          have sq := rk_sq hg1.2.1 hg1.2.2.1
          (try simp (maxSteps := 10000000) (disch := omega) only [w64])
          all_goals (try with_reducible (repeat' (first | apply And.intro | intro _)))
          all_goals (try (first | with_reducible refine wa_id ?_ | exact True.intro | omega))
          refine V_regionZ Γ Δ Θ [] [0, 1, 2, 3, 4, 5, 6, 7, 10, 11, 12, 13, 14, 22, 23, 46, 47, 48, 57, 74, 90, 91] (evs ?_)
          (try simp (maxSteps := 10000000) (disch := omega) only [w64])
          all_goals (try with_reducible (repeat' (first | apply And.intro | intro _)))
          all_goals (try (first | with_reducible refine wa_id ?_ | exact True.intro | omega))
          refine V_next [(20000, some 98)] 1 (evs ?_) ?_ ?_
          all_goals (try with_reducible (repeat' (first | apply And.intro | intro _)))
          all_goals (first | exact True.intro | omega | (first | rfl))
        · refine WA_seq (x := (fcd Tryz.f14 [1, 1, 0, 1, 0, 1, 1, 1, 1, 1, 0, 1, 1, 1, 0, 0, 0])) (y := (fcd Tryz.f14 [1, 1, 0, 1, 0, 1, 1, 1, 1, 1, 0, 1, 1, 1, 0, 0, 1])) ?_
          refine V_regionZ Γ Δ Θ [] [0, 1, 2, 3, 4, 5, 6, 7, 10, 11, 12, 13, 14, 22, 23, 46, 47, 48, 57, 74, 90, 91] (evs ?_)
          all_goals (try with_reducible (repeat' (first | apply And.intro | intro _)))
          all_goals (try (first | with_reducible refine wa_id ?_ | exact True.intro | omega))
          refine WA_seq (x := (fcd Tryz.f14 [1, 1, 0, 1, 0, 1, 1, 1, 1, 1, 0, 1, 1, 1, 0, 0, 1, 0])) (y := (fcd Tryz.f14 [1, 1, 0, 1, 0, 1, 1, 1, 1, 1, 0, 1, 1, 1, 0, 0, 1, 1])) ?_
          refine V_cond (evs ?_)
          refine ⟨fun hc => ?_, fun hc => by exact absurd hc (by omega)⟩
          refine WA_skip ?_
          refine WA_seq (x := (fcd Tryz.f14 [1, 1, 0, 1, 0, 1, 1, 1, 1, 1, 0, 1, 1, 1, 0, 0, 1, 1, 0])) (y := (fcd Tryz.f14 [1, 1, 0, 1, 0, 1, 1, 1, 1, 1, 0, 1, 1, 1, 0, 0, 1, 1, 1])) ?_
          refine WA_block (c := (fcd Tryz.f14 [1, 1, 0, 1, 0, 1, 1, 1, 1, 1, 0, 1, 1, 1, 0, 0, 1, 1, 0, 0])) ?_
          refine WA_seq (x := (fcd Tryz.f14 [1, 1, 0, 1, 0, 1, 1, 1, 1, 1, 0, 1, 1, 1, 0, 0, 1, 1, 0, 0, 0])) (y := (fcd Tryz.f14 [1, 1, 0, 1, 0, 1, 1, 1, 1, 1, 0, 1, 1, 1, 0, 0, 1, 1, 0, 0, 1])) ?_
          refine V_regionZ Γ Δ Θ [] [0, 1, 2, 3, 4, 5, 6, 7, 10, 11, 12, 13, 14, 22, 23, 46, 47, 48, 57, 74, 90, 91] (evs ?_)
          all_goals (try with_reducible (repeat' (first | apply And.intro | intro _)))
          all_goals (try (first | with_reducible refine wa_id ?_ | exact True.intro | omega))
          refine V_draw Γ [] [0, 1, 2, 3, 4, 5, 6, 7, 10, 11, 12, 13, 14, 22, 23, 46, 47, 48, 57, 74, 90, 91] mixed (by kernel_rfl) (evs ?_)
          have sq := rk_sq hg1.2.1 hg1.2.2.1
          (try simp (maxSteps := 10000000) (disch := omega) only [w64])
          all_goals (try with_reducible (repeat' (first | apply And.intro | intro _)))
          all_goals (try (first | with_reducible refine wa_id ?_ | exact True.intro | omega))
          refine V_regionZ Γ Δ Θ [] [0, 1, 2, 3, 4, 5, 6, 7, 10, 11, 12, 13, 14, 22, 23, 46, 47, 48, 57, 74, 90, 91] (evs ?_)
          (try simp (maxSteps := 10000000) (disch := omega) only [w64])
          all_goals (try with_reducible (repeat' (first | apply And.intro | intro _)))
          all_goals (try (first | with_reducible refine wa_id ?_ | exact True.intro | omega))
          refine V_next [(20001, some 98)] 2 (evs ?_) ?_ ?_
          all_goals (try with_reducible (repeat' (first | apply And.intro | intro _)))
          all_goals (first | exact True.intro | omega | (first | rfl))
        · refine WA_seq (x := (fcd Tryz.f14 [1, 1, 0, 1, 0, 1, 1, 1, 1, 1, 0, 1, 1, 1, 0, 0, 0])) (y := (fcd Tryz.f14 [1, 1, 0, 1, 0, 1, 1, 1, 1, 1, 0, 1, 1, 1, 0, 0, 1])) ?_
          refine V_regionZ Γ Δ Θ [] [0, 1, 2, 3, 4, 5, 6, 7, 10, 11, 12, 13, 14, 22, 23, 46, 47, 48, 57, 74, 90, 91] (evs ?_)
          all_goals (try with_reducible (repeat' (first | apply And.intro | intro _)))
          all_goals (try (first | with_reducible refine wa_id ?_ | exact True.intro | omega))
          refine WA_seq (x := (fcd Tryz.f14 [1, 1, 0, 1, 0, 1, 1, 1, 1, 1, 0, 1, 1, 1, 0, 0, 1, 0])) (y := (fcd Tryz.f14 [1, 1, 0, 1, 0, 1, 1, 1, 1, 1, 0, 1, 1, 1, 0, 0, 1, 1])) ?_
          refine V_cond (evs ?_)
          refine ⟨fun hc => ?_, fun hc => by exact absurd hc (by omega)⟩
          refine WA_skip ?_
          refine WA_seq (x := (fcd Tryz.f14 [1, 1, 0, 1, 0, 1, 1, 1, 1, 1, 0, 1, 1, 1, 0, 0, 1, 1, 0])) (y := (fcd Tryz.f14 [1, 1, 0, 1, 0, 1, 1, 1, 1, 1, 0, 1, 1, 1, 0, 0, 1, 1, 1])) ?_
          refine WA_block (c := (fcd Tryz.f14 [1, 1, 0, 1, 0, 1, 1, 1, 1, 1, 0, 1, 1, 1, 0, 0, 1, 1, 0, 0])) ?_
          refine WA_seq (x := (fcd Tryz.f14 [1, 1, 0, 1, 0, 1, 1, 1, 1, 1, 0, 1, 1, 1, 0, 0, 1, 1, 0, 0, 0])) (y := (fcd Tryz.f14 [1, 1, 0, 1, 0, 1, 1, 1, 1, 1, 0, 1, 1, 1, 0, 0, 1, 1, 0, 0, 1])) ?_
          refine V_regionZ Γ Δ Θ [] [0, 1, 2, 3, 4, 5, 6, 7, 10, 11, 12, 13, 14, 22, 23, 46, 47, 48, 57, 74, 90, 91] (evs ?_)
          all_goals (try with_reducible (repeat' (first | apply And.intro | intro _)))
          all_goals (try (first | with_reducible refine wa_id ?_ | exact True.intro | omega))
          refine V_draw Γ [] [0, 1, 2, 3, 4, 5, 6, 7, 10, 11, 12, 13, 14, 22, 23, 46, 47, 48, 57, 74, 90, 91] mixed (by kernel_rfl) (evs ?_)
          have sq := rk_sq hg1.2.1 hg1.2.2.1
          (try simp (maxSteps := 10000000) (disch := omega) only [w64])
          all_goals (try with_reducible (repeat' (first | apply And.intro | intro _)))
          all_goals (try (first | with_reducible refine wa_id ?_ | exact True.intro | omega))
          refine V_regionZ Γ Δ Θ [] [0, 1, 2, 3, 4, 5, 6, 7, 10, 11, 12, 13, 14, 22, 23, 46, 47, 48, 57, 74, 90, 91] (evs ?_)
          (try simp (maxSteps := 10000000) (disch := omega) only [w64])
          all_goals (try with_reducible (repeat' (first | apply And.intro | intro _)))
          all_goals (try (first | with_reducible refine wa_id ?_ | exact True.intro | omega))
          refine V_next [(20002, some 98)] 3 (evs ?_) ?_ ?_
          all_goals (try with_reducible (repeat' (first | apply And.intro | intro _)))
          all_goals (first | exact True.intro | omega | (first | rfl))
        · refine WA_seq (x := (fcd Tryz.f14 [1, 1, 0, 1, 0, 1, 1, 1, 1, 1, 0, 1, 1, 1, 0, 0, 0])) (y := (fcd Tryz.f14 [1, 1, 0, 1, 0, 1, 1, 1, 1, 1, 0, 1, 1, 1, 0, 0, 1])) ?_
          refine V_regionZ Γ Δ Θ [] [0, 1, 2, 3, 4, 5, 6, 7, 10, 11, 12, 13, 14, 22, 23, 46, 47, 48, 57, 74, 90, 91] (evs ?_)
          all_goals (try with_reducible (repeat' (first | apply And.intro | intro _)))
          all_goals (try (first | with_reducible refine wa_id ?_ | exact True.intro | omega))
          refine WA_seq (x := (fcd Tryz.f14 [1, 1, 0, 1, 0, 1, 1, 1, 1, 1, 0, 1, 1, 1, 0, 0, 1, 0])) (y := (fcd Tryz.f14 [1, 1, 0, 1, 0, 1, 1, 1, 1, 1, 0, 1, 1, 1, 0, 0, 1, 1])) ?_
          refine V_cond (evs ?_)
          refine ⟨fun hc => ?_, fun hc => by exact absurd hc (by omega)⟩
          refine WA_skip ?_
          refine WA_seq (x := (fcd Tryz.f14 [1, 1, 0, 1, 0, 1, 1, 1, 1, 1, 0, 1, 1, 1, 0, 0, 1, 1, 0])) (y := (fcd Tryz.f14 [1, 1, 0, 1, 0, 1, 1, 1, 1, 1, 0, 1, 1, 1, 0, 0, 1, 1, 1])) ?_
          refine WA_block (c := (fcd Tryz.f14 [1, 1, 0, 1, 0, 1, 1, 1, 1, 1, 0, 1, 1, 1, 0, 0, 1, 1, 0, 0])) ?_
          refine WA_seq (x := (fcd Tryz.f14 [1, 1, 0, 1, 0, 1, 1, 1, 1, 1, 0, 1, 1, 1, 0, 0, 1, 1, 0, 0, 0])) (y := (fcd Tryz.f14 [1, 1, 0, 1, 0, 1, 1, 1, 1, 1, 0, 1, 1, 1, 0, 0, 1, 1, 0, 0, 1])) ?_
          refine V_regionZ Γ Δ Θ [] [0, 1, 2, 3, 4, 5, 6, 7, 10, 11, 12, 13, 14, 22, 23, 46, 47, 48, 57, 74, 90, 91] (evs ?_)
          all_goals (try with_reducible (repeat' (first | apply And.intro | intro _)))
          all_goals (try (first | with_reducible refine wa_id ?_ | exact True.intro | omega))
          refine V_draw Γ [] [0, 1, 2, 3, 4, 5, 6, 7, 10, 11, 12, 13, 14, 22, 23, 46, 47, 48, 57, 74, 90, 91] mixed (by kernel_rfl) (evs ?_)
          have sq := rk_sq hg1.2.1 hg1.2.2.1
          (try simp (maxSteps := 10000000) (disch := omega) only [w64])
          all_goals (try with_reducible (repeat' (first | apply And.intro | intro _)))
          all_goals (try (first | with_reducible refine wa_id ?_ | exact True.intro | omega))
          refine V_regionZ Γ Δ Θ [] [0, 1, 2, 3, 4, 5, 6, 7, 10, 11, 12, 13, 14, 22, 23, 46, 47, 48, 57, 74, 90, 91] (evs ?_)
          (try simp (maxSteps := 10000000) (disch := omega) only [w64])
          all_goals (try with_reducible (repeat' (first | apply And.intro | intro _)))
          all_goals (try (first | with_reducible refine wa_id ?_ | exact True.intro | omega))
          refine V_next [(20003, some 98)] 4 (evs ?_) ?_ ?_
          all_goals (try with_reducible (repeat' (first | apply And.intro | intro _)))
          all_goals (first | exact True.intro | omega | (first | rfl))
        · refine WA_seq (x := (fcd Tryz.f14 [1, 1, 0, 1, 0, 1, 1, 1, 1, 1, 0, 1, 1, 1, 0, 0, 0])) (y := (fcd Tryz.f14 [1, 1, 0, 1, 0, 1, 1, 1, 1, 1, 0, 1, 1, 1, 0, 0, 1])) ?_
          refine V_regionZ Γ Δ Θ [] [0, 1, 2, 3, 4, 5, 6, 7, 10, 11, 12, 13, 14, 22, 23, 46, 47, 48, 57, 74, 90, 91] (evs ?_)
          all_goals (try with_reducible (repeat' (first | apply And.intro | intro _)))
          all_goals (try (first | with_reducible refine wa_id ?_ | exact True.intro | omega))
          refine WA_seq (x := (fcd Tryz.f14 [1, 1, 0, 1, 0, 1, 1, 1, 1, 1, 0, 1, 1, 1, 0, 0, 1, 0])) (y := (fcd Tryz.f14 [1, 1, 0, 1, 0, 1, 1, 1, 1, 1, 0, 1, 1, 1, 0, 0, 1, 1])) ?_
          refine V_cond (evs ?_)
          refine ⟨fun hc => by exact absurd hc (by omega), fun hc => ?_⟩
          refine V_exit (evs ?_)
          refine WA_seq (x := (fcd Tryz.f14 [1, 1, 1, 0])) (y := (fcd Tryz.f14 [1, 1, 1, 1])) ?_
          refine V_regionZ Γ Δ Θ [] [0, 1, 2, 3, 4, 5, 6, 7, 10, 11, 12, 13, 14, 22, 23, 46, 47, 48, 57, 74, 90, 91] (evs ?_)
          all_goals (try with_reducible (repeat' (first | apply And.intro | intro _)))
          all_goals (try (first | with_reducible refine wa_id ?_ | exact True.intro | omega))
          refine WA_ret (V_retZ [(30000, some 21), (30001, some 20000), (30002, some 20001), (30003, some 20002), (30004, some 20003)] () (evs ?_) ?_)
          all_goals (first | trivial | rfl | exact ⟨rfl, rfl, rfl, rfl⟩)

end Go.S16

