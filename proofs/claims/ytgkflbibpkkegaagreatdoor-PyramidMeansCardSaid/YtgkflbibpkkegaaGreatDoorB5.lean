import Derived.Test.YtgkflbibpkkegaaGreatDoorB4
set_option linter.unusedSimpArgs false
set_option linter.unusedVariables false
set_option linter.unusedSimpArgs false
set_option linter.unusedVariables false
namespace Go.S35
open Go.RowKit Go.Proofs Go.Eng Go.Rect
set_option maxHeartbeats 16000000 in
set_option maxRecDepth 100000 in
theorem half_fn (m : Im) (hm : ichkE m = 0) : Eng.Fn Tryz.prog 35 [imD m] (.agg [.dat (.i (hfN m.w)), .dat (.i (hfN m.h)), .own 44 4 ((halfI m).p.map pxC)]) := by
  have hz := (ichk0 hm).1
  unfold Z0 at hz
  have hz2 := half_z hm
  have hnb := nn_bd hz2
  have hz3 := hz2
  unfold Z0 at hz3
  refine Eng.Fn.by (fn := Tryz.f35) 84 [.cell 2 31] Tryz.func35 rfl Tryz.ntmps35 rfl (by simp) fun w0 G0 => ?_
  refine WA_seq (x := (fcd Tryz.f35 [0])) (y := (fcd Tryz.f35 [1])) ?_
  refine V_regionX Γ Δ [] [0, 1, 2, 3, 4, 5, 6, 7, 8, 9, 10, 26, 27, 28, 30, 31, 32, 43, 55] (evs ?_)
  all_goals (try with_reducible (repeat' (first | apply And.intro | intro _)))
  all_goals (try (first | with_reducible refine wa_id ?_ | exact True.intro | omega))
  refine WA_seq (x := (fcd Tryz.f35 [1, 0])) (y := (fcd Tryz.f35 [1, 1])) ?_
  refine V_draw Γ [] [0, 1, 2, 3, 4, 5, 6, 7, 8, 9, 10, 26, 27, 28, 30, 31, 32, 43, 55] mixed (by kernel_rfl) (evs ?_)
  simp only [hf_w (n := m.w) (by omega), hf_w (n := m.h) (by omega)]
  all_goals (try with_reducible (repeat' (first | apply And.intro | intro _)))
  all_goals (try (first | with_reducible refine wa_id ?_ | exact True.intro | omega))
  refine WA_seq (x := (fcd Tryz.f35 [1, 1, 0])) (y := (fcd Tryz.f35 [1, 1, 1])) ?_
  refine V_regionX Γ Δ [] [0, 1, 2, 3, 4, 5, 6, 7, 8, 9, 10, 26, 27, 28, 30, 31, 32, 43, 55] (evs ?_)
  simp only [wN hz2, Int.toNat_natCast]
  all_goals (try with_reducible (repeat' (first | apply And.intro | intro _)))
  all_goals (try (first | with_reducible refine wa_id ?_ | exact True.intro | omega))
  refine WA_seq (x := (fcd Tryz.f35 [1, 1, 1, 0])) (y := (fcd Tryz.f35 [1, 1, 1, 1])) ?_
  refine WA_seq (x := (fcd Tryz.f35 [1, 1, 1, 0, 0])) (y := (fcd Tryz.f35 [1, 1, 1, 0, 1])) ?_
  refine V_regionX Γ Δ [] [0, 1, 2, 3, 4, 5, 6, 7, 8, 9, 10, 26, 27, 28, 30, 31, 32, 43, 55] (evs ?_)
  all_goals (try with_reducible (repeat' (first | apply And.intro | intro _)))
  all_goals (try (first | with_reducible refine wa_id ?_ | exact True.intro | omega))
  refine WA_block (c := (fcd Tryz.f35 [1, 1, 1, 0, 1, 0])) ?_
  refine V_loop (c := (fcd Tryz.f35 [1, 1, 1, 0, 1, 0, 0])) (α := Nat) [6, 7, 8, 9, 10, 27, 28, 30, 31, 32, 43, 55] [24, 69, 70, 17900, 17901, 17902, 17903] (fun y => [(27, .dat (.i (y : Int)))]) (fun y => [(24, some (true, .arr 44 4 ((filP (nn (hfN m.w) (hfN m.h)) (gP (hfN m.w).toNat (hfP m)) (fun _ => zP) (y * (hfN m.w).toNat)).map pxC)))]) (fun y => y ≤ (hfN m.h).toNat) (fun y => (hfN m.h).toNat - y) 0 [] ?_ (evs ?_) ?_
  · exact Nat.zero_le _
  · (try with_reducible (repeat' (first | apply And.intro | intro _)))
    all_goals (first | exact True.intro | omega | (first | exact repZ _ _ | rfl))
  · intro y hY
    refine WA_seq (x := (fcd Tryz.f35 [1, 1, 1, 0, 1, 0, 0, 0])) (y := (fcd Tryz.f35 [1, 1, 1, 0, 1, 0, 0, 1])) ?_
    refine V_regionX Γ Δ [] [0, 1, 2, 3, 4, 5, 6, 7, 8, 9, 10, 26, 27, 28, 30, 31, 32, 43, 55] (evs ?_)
    all_goals (try with_reducible (repeat' (first | apply And.intro | intro _)))
    all_goals (try (first | with_reducible refine wa_id ?_ | exact True.intro | omega))
    refine WA_seq (x := (fcd Tryz.f35 [1, 1, 1, 0, 1, 0, 0, 1, 0])) (y := (fcd Tryz.f35 [1, 1, 1, 0, 1, 0, 0, 1, 1])) ?_
    refine V_cond (evs ?_)
    refine ⟨fun hc => ?_, fun hc => ?_⟩
    · refine WA_skip ?_
      refine WA_seq (x := (fcd Tryz.f35 [1, 1, 1, 0, 1, 0, 0, 1, 1, 0])) (y := (fcd Tryz.f35 [1, 1, 1, 0, 1, 0, 0, 1, 1, 1])) ?_
      refine WA_block (c := (fcd Tryz.f35 [1, 1, 1, 0, 1, 0, 0, 1, 1, 0, 0])) ?_
      refine WA_seq (x := (fcd Tryz.f35 [1, 1, 1, 0, 1, 0, 0, 1, 1, 0, 0, 0])) (y := (fcd Tryz.f35 [1, 1, 1, 0, 1, 0, 0, 1, 1, 0, 0, 1])) ?_
      refine V_regionX Γ Δ [] [0, 1, 2, 3, 4, 5, 6, 7, 8, 9, 10, 26, 27, 28, 30, 31, 32, 43, 55] (evs ?_)
      all_goals (try with_reducible (repeat' (first | apply And.intro | intro _)))
      all_goals (try (first | with_reducible refine wa_id ?_ | exact True.intro | omega))
      refine WA_seq (x := (fcd Tryz.f35 [1, 1, 1, 0, 1, 0, 0, 1, 1, 0, 0, 1, 0])) (y := (fcd Tryz.f35 [1, 1, 1, 0, 1, 0, 0, 1, 1, 0, 0, 1, 1])) ?_
      refine V_regionX Γ Δ [] [0, 1, 2, 3, 4, 5, 6, 7, 8, 9, 10, 26, 27, 28, 30, 31, 32, 43, 55] (evs ?_)
      all_goals (try with_reducible (repeat' (first | apply And.intro | intro _)))
      all_goals (try (first | with_reducible refine wa_id ?_ | exact True.intro | omega))
      refine WA_block (c := (fcd Tryz.f35 [1, 1, 1, 0, 1, 0, 0, 1, 1, 0, 0, 1, 1, 0])) ?_
      refine V_loop (c := (fcd Tryz.f35 [1, 1, 1, 0, 1, 0, 0, 1, 1, 0, 0, 1, 1, 0, 0])) (α := Nat) [7, 8, 9, 10, 31, 32, 43, 55] [24, 69, 70, 17900, 17901, 17902, 17903] (fun x => [(31, .dat (.i (x : Int)))]) (fun x => [(24, some (true, .arr 44 4 ((filP (nn (hfN m.w) (hfN m.h)) (gP (hfN m.w).toNat (hfP m)) (fun _ => zP) (y * (hfN m.w).toNat + x)).map pxC)))]) (fun x => x ≤ (hfN m.w).toNat) (fun x => (hfN m.w).toNat - x) 0 [] ?_ (evs ?_) ?_
      · exact Nat.zero_le _
      · (try with_reducible (repeat' (first | apply And.intro | intro _)))
        all_goals (first | exact True.intro | omega | (first | rfl))
      · intro x hX
        refine WA_seq (x := (fcd Tryz.f35 [1, 1, 1, 0, 1, 0, 0, 1, 1, 0, 0, 1, 1, 0, 0, 0])) (y := (fcd Tryz.f35 [1, 1, 1, 0, 1, 0, 0, 1, 1, 0, 0, 1, 1, 0, 0, 1])) ?_
        refine V_regionX Γ Δ [] [0, 1, 2, 3, 4, 5, 6, 7, 8, 9, 10, 26, 27, 28, 30, 31, 32, 43, 55] (evs ?_)
        all_goals (try with_reducible (repeat' (first | apply And.intro | intro _)))
        all_goals (try (first | with_reducible refine wa_id ?_ | exact True.intro | omega))
        refine WA_seq (x := (fcd Tryz.f35 [1, 1, 1, 0, 1, 0, 0, 1, 1, 0, 0, 1, 1, 0, 0, 1, 0])) (y := (fcd Tryz.f35 [1, 1, 1, 0, 1, 0, 0, 1, 1, 0, 0, 1, 1, 0, 0, 1, 1])) ?_
        refine V_cond (evs ?_)
        refine ⟨fun hc => ?_, fun hc => ?_⟩
        · refine WA_skip ?_
          refine WA_seq (x := (fcd Tryz.f35 [1, 1, 1, 0, 1, 0, 0, 1, 1, 0, 0, 1, 1, 0, 0, 1, 1, 0])) (y := (fcd Tryz.f35 [1, 1, 1, 0, 1, 0, 0, 1, 1, 0, 0, 1, 1, 0, 0, 1, 1, 1])) ?_
          refine WA_block (c := (fcd Tryz.f35 [1, 1, 1, 0, 1, 0, 0, 1, 1, 0, 0, 1, 1, 0, 0, 1, 1, 0, 0])) ?_
          refine WA_seq (x := (fcd Tryz.f35 [1, 1, 1, 0, 1, 0, 0, 1, 1, 0, 0, 1, 1, 0, 0, 1, 1, 0, 0, 0])) (y := (fcd Tryz.f35 [1, 1, 1, 0, 1, 0, 0, 1, 1, 0, 0, 1, 1, 0, 0, 1, 1, 0, 0, 1])) ?_
          refine V_regionX Γ Δ [] [0, 1, 2, 3, 4, 5, 6, 7, 8, 9, 10, 26, 27, 28, 30, 31, 32, 43, 55] (evs ?_)
          all_goals (try with_reducible (repeat' (first | apply And.intro | intro _)))
          all_goals (try (first | with_reducible refine wa_id ?_ | exact True.intro | omega))
          refine WA_seq (x := (fcd Tryz.f35 [1, 1, 1, 0, 1, 0, 0, 1, 1, 0, 0, 1, 1, 0, 0, 1, 1, 0, 0, 1, 0])) (y := (fcd Tryz.f35 [1, 1, 1, 0, 1, 0, 0, 1, 1, 0, 0, 1, 1, 0, 0, 1, 1, 0, 0, 1, 1])) ?_
          refine V_regionX Γ Δ [] [0, 1, 2, 3, 4, 5, 6, 7, 8, 9, 10, 26, 27, 28, 30, 31, 32, 43, 55] (evs ?_)
          all_goals (try with_reducible (repeat' (first | apply And.intro | intro _)))
          all_goals (try (first | with_reducible refine wa_id ?_ | exact True.intro | omega))
          refine WA_seq (x := (fcd Tryz.f35 [1, 1, 1, 0, 1, 0, 0, 1, 1, 0, 0, 1, 1, 0, 0, 1, 1, 0, 0, 1, 1, 0])) (y := (fcd Tryz.f35 [1, 1, 1, 0, 1, 0, 0, 1, 1, 0, 0, 1, 1, 0, 0, 1, 1, 0, 0, 1, 1, 1])) ?_
          refine WA_seq (x := (fcd Tryz.f35 [1, 1, 1, 0, 1, 0, 0, 1, 1, 0, 0, 1, 1, 0, 0, 1, 1, 0, 0, 1, 1, 0, 0])) (y := (fcd Tryz.f35 [1, 1, 1, 0, 1, 0, 0, 1, 1, 0, 0, 1, 1, 0, 0, 1, 1, 0, 0, 1, 1, 0, 1])) ?_
          refine V_regionX Γ Δ [] [0, 1, 2, 3, 4, 5, 6, 7, 8, 9, 10, 26, 27, 28, 30, 31, 32, 43, 55] (evs ?_)
          have hxl : (x : Int) < hfN m.w := by omega
          have hyl : (y : Int) < hfN m.h := by omega
          have hxv : 2 * (x : Int) < m.w := by unfold hfN at *; omega
          have hyv : 2 * (y : Int) < m.h := by unfold hfN at *; omega
          (try simp (maxSteps := 10000000) (disch := omega) only [w64])
          all_goals (try with_reducible (repeat' (first | apply And.intro | intro _)))
          all_goals (try (first | with_reducible refine wa_id ?_ | exact True.intro | omega))
          refine WA_block (c := (fcd Tryz.f35 [1, 1, 1, 0, 1, 0, 0, 1, 1, 0, 0, 1, 1, 0, 0, 1, 1, 0, 0, 1, 1, 0, 1, 0])) ?_
          refine V_loop (c := (fcd Tryz.f35 [1, 1, 1, 0, 1, 0, 0, 1, 1, 0, 0, 1, 1, 0, 0, 1, 1, 0, 0, 1, 1, 0, 1, 0, 0])) (α := Nat) [8, 9, 10, 43, 55] [69, 70] (fun j => [(9, .dat (.i (2 * (y : Int) + (j : Int)))), (8, .vw 20000 0 (hfL m (x : Int) (y : Int) j 0).length 4)]) (fun j => [(20000, some (true, .arr 44 4 (((hfL m (x : Int) (y : Int) j 0)).map pxC)))]) (fun j => j ≤ hfX m.h (y : Int)) (fun j => hfX m.h (y : Int) - j) 0 [(20000, none)] ?_ (evs ?_) ?_
          · exact Nat.zero_le _
          · (try with_reducible (repeat' (first | apply And.intro | intro _)))
            all_goals (first | exact True.intro | omega | (first | rfl | (simp; done)))
          · intro j hJ
            refine WA_seq (x := (fcd Tryz.f35 [1, 1, 1, 0, 1, 0, 0, 1, 1, 0, 0, 1, 1, 0, 0, 1, 1, 0, 0, 1, 1, 0, 1, 0, 0, 0])) (y := (fcd Tryz.f35 [1, 1, 1, 0, 1, 0, 0, 1, 1, 0, 0, 1, 1, 0, 0, 1, 1, 0, 0, 1, 1, 0, 1, 0, 0, 1])) ?_
            refine WA_seq (x := (fcd Tryz.f35 [1, 1, 1, 0, 1, 0, 0, 1, 1, 0, 0, 1, 1, 0, 0, 1, 1, 0, 0, 1, 1, 0, 1, 0, 0, 0, 0])) (y := (fcd Tryz.f35 [1, 1, 1, 0, 1, 0, 0, 1, 1, 0, 0, 1, 1, 0, 0, 1, 1, 0, 0, 1, 1, 0, 1, 0, 0, 0, 1])) ?_
            refine V_regionX Γ Δ [] [0, 1, 2, 3, 4, 5, 6, 7, 8, 9, 10, 26, 27, 28, 30, 31, 32, 43, 55] (evs ?_)
            (try simp (maxSteps := 10000000) (disch := omega) only [w64])
            all_goals (try with_reducible (repeat' (first | apply And.intro | intro _)))
            all_goals (try (first | with_reducible refine wa_id ?_ | exact True.intro | omega))
            refine V_cond (evs ?_)
            refine ⟨fun hc => ?_, fun hc => ?_⟩
            · refine WA_skip ?_
              refine WA_seq (x := (fcd Tryz.f35 [1, 1, 1, 0, 1, 0, 0, 1, 1, 0, 0, 1, 1, 0, 0, 1, 1, 0, 0, 1, 1, 0, 1, 0, 0, 1, 0])) (y := (fcd Tryz.f35 [1, 1, 1, 0, 1, 0, 0, 1, 1, 0, 0, 1, 1, 0, 0, 1, 1, 0, 0, 1, 1, 0, 1, 0, 0, 1, 1])) ?_
              refine WA_block (c := (fcd Tryz.f35 [1, 1, 1, 0, 1, 0, 0, 1, 1, 0, 0, 1, 1, 0, 0, 1, 1, 0, 0, 1, 1, 0, 1, 0, 0, 1, 0, 0])) ?_
              refine WA_seq (x := (fcd Tryz.f35 [1, 1, 1, 0, 1, 0, 0, 1, 1, 0, 0, 1, 1, 0, 0, 1, 1, 0, 0, 1, 1, 0, 1, 0, 0, 1, 0, 0, 0])) (y := (fcd Tryz.f35 [1, 1, 1, 0, 1, 0, 0, 1, 1, 0, 0, 1, 1, 0, 0, 1, 1, 0, 0, 1, 1, 0, 1, 0, 0, 1, 0, 0, 1])) ?_
              refine V_regionX Γ Δ [] [0, 1, 2, 3, 4, 5, 6, 7, 8, 9, 10, 26, 27, 28, 30, 31, 32, 43, 55] (evs ?_)
              have hjx : j < hfX m.h (y : Int) := by unfold hfX; omega
              (try simp (maxSteps := 10000000) (disch := omega) only [w64])
              all_goals (try with_reducible (repeat' (first | apply And.intro | intro _)))
              all_goals (try (first | with_reducible refine wa_id ?_ | exact True.intro | omega))
              refine WA_block (c := (fcd Tryz.f35 [1, 1, 1, 0, 1, 0, 0, 1, 1, 0, 0, 1, 1, 0, 0, 1, 1, 0, 0, 1, 1, 0, 1, 0, 0, 1, 0, 0, 1, 0])) ?_
              refine V_loop (c := (fcd Tryz.f35 [1, 1, 1, 0, 1, 0, 0, 1, 1, 0, 0, 1, 1, 0, 0, 1, 1, 0, 0, 1, 1, 0, 1, 0, 0, 1, 0, 0, 1, 0, 0])) (α := Nat) [8, 10, 55] [69, 70, 20000] (fun k => [(10, .dat (.i (2 * (x : Int) + (k : Int)))), (8, .vw 20001 0 (hfL m (x : Int) (y : Int) j k).length 4)]) (fun k => [(20001, some (true, .arr 44 4 (((hfL m (x : Int) (y : Int) j k)).map pxC)))]) (fun k => k ≤ hfX m.w (x : Int)) (fun k => hfX m.w (x : Int) - k) 0 [(20001, some 20000)] ?_ (evs ?_) ?_
              · exact Nat.zero_le _
              · (try with_reducible (repeat' (first | apply And.intro | intro _)))
                all_goals (first | exact True.intro | omega | (first | rfl | (simp; done)))
              · intro k hK
                refine WA_seq (x := (fcd Tryz.f35 [1, 1, 1, 0, 1, 0, 0, 1, 1, 0, 0, 1, 1, 0, 0, 1, 1, 0, 0, 1, 1, 0, 1, 0, 0, 1, 0, 0, 1, 0, 0, 0])) (y := (fcd Tryz.f35 [1, 1, 1, 0, 1, 0, 0, 1, 1, 0, 0, 1, 1, 0, 0, 1, 1, 0, 0, 1, 1, 0, 1, 0, 0, 1, 0, 0, 1, 0, 0, 1])) ?_
                refine WA_seq (x := (fcd Tryz.f35 [1, 1, 1, 0, 1, 0, 0, 1, 1, 0, 0, 1, 1, 0, 0, 1, 1, 0, 0, 1, 1, 0, 1, 0, 0, 1, 0, 0, 1, 0, 0, 0, 0])) (y := (fcd Tryz.f35 [1, 1, 1, 0, 1, 0, 0, 1, 1, 0, 0, 1, 1, 0, 0, 1, 1, 0, 0, 1, 1, 0, 1, 0, 0, 1, 0, 0, 1, 0, 0, 0, 1])) ?_
                refine V_regionX Γ Δ [] [0, 1, 2, 3, 4, 5, 6, 7, 8, 9, 10, 26, 27, 28, 30, 31, 32, 43, 55] (evs ?_)
                (try simp (maxSteps := 10000000) (disch := omega) only [w64])
                all_goals (try with_reducible (repeat' (first | apply And.intro | intro _)))
                all_goals (try (first | with_reducible refine wa_id ?_ | exact True.intro | omega))
                refine V_cond (evs ?_)
                refine ⟨fun hc => ?_, fun hc => ?_⟩
                · refine WA_skip ?_
                  refine WA_seq (x := (fcd Tryz.f35 [1, 1, 1, 0, 1, 0, 0, 1, 1, 0, 0, 1, 1, 0, 0, 1, 1, 0, 0, 1, 1, 0, 1, 0, 0, 1, 0, 0, 1, 0, 0, 1, 0])) (y := (fcd Tryz.f35 [1, 1, 1, 0, 1, 0, 0, 1, 1, 0, 0, 1, 1, 0, 0, 1, 1, 0, 0, 1, 1, 0, 1, 0, 0, 1, 0, 0, 1, 0, 0, 1, 1])) ?_
                  refine WA_block (c := (fcd Tryz.f35 [1, 1, 1, 0, 1, 0, 0, 1, 1, 0, 0, 1, 1, 0, 0, 1, 1, 0, 0, 1, 1, 0, 1, 0, 0, 1, 0, 0, 1, 0, 0, 1, 0, 0])) ?_
                  refine V_regionX Γ Δ [] [0, 1, 2, 3, 4, 5, 6, 7, 8, 9, 10, 26, 27, 28, 30, 31, 32, 43, 55] (evs ?_)
                  have hkx : k < hfX m.w (x : Int) := by unfold hfX; omega
                  have hjx : j < hfX m.h (y : Int) := by unfold hfX; omega
                  have hix := hf_ix (x := x) (y := y) (j := j) (k := k) hm (by omega) (by omega)
                  have hll := hfL_len m (x : Int) (y : Int) j k
                  have hxx := hfX_le m.w (x : Int)
                  have hyy := hfX_le m.h (y : Int)
                  have hmu := Nat.mul_le_mul (show j ≤ 2 by omega) hxx
                  (try simp (maxSteps := 10000000) (disch := omega) only [w64])
                  all_goals (try with_reducible (repeat' (first | apply And.intro | intro _)))
                  all_goals (try (first | with_reducible refine wa_id ?_ | exact True.intro | omega))
                  refine V_regionX Γ Δ [] [0, 1, 2, 3, 4, 5, 6, 7, 8, 9, 10, 26, 27, 28, 30, 31, 32, 43, 55] (evs ?_)
                  (try simp (maxSteps := 10000000) (disch := omega) only [w64])
                  all_goals (try with_reducible (repeat' (first | apply And.intro | intro _)))
                  all_goals (try (first | with_reducible refine wa_id ?_ | exact True.intro | omega))
                  refine V_next [(20001, some 70)] (k + 1) (evs ?_) ?_ ?_
                  all_goals (try with_reducible (repeat' (first | apply And.intro | intro _)))
                  all_goals (first | exact True.intro | omega | (first | rfl | (push_cast; omega) | (rw [hfL_s, List.length_append]; rfl) | (rw [hfL_s, List.map_append]; rfl)))
                · refine V_exit (evs ?_)
                  refine V_regionX Γ Δ [] [0, 1, 2, 3, 4, 5, 6, 7, 8, 9, 10, 26, 27, 28, 30, 31, 32, 43, 55] (evs ?_)
                  have hke : k = hfX m.w (x : Int) := by unfold hfX at *; omega
                  subst hke
                  (try simp (maxSteps := 10000000) (disch := omega) only [w64])
                  all_goals (try with_reducible (repeat' (first | apply And.intro | intro _)))
                  all_goals (try (first | with_reducible refine wa_id ?_ | exact True.intro | omega))
                  refine V_next [(20000, some 20001)] (j + 1) (evs ?_) ?_ ?_
                  all_goals (try with_reducible (repeat' (first | apply And.intro | intro _)))
                  all_goals (first | exact True.intro | omega | (first | rfl | (push_cast; omega) | (rw [hfL_o]; done)))
            · refine V_exit (evs ?_)
              refine V_draw Γ [] [0, 1, 2, 3, 4, 5, 6, 7, 8, 9, 10, 26, 27, 28, 30, 31, 32, 43, 55] mixed (by kernel_rfl) (evs ?_)
              have hje : j = hfX m.h (y : Int) := by unfold hfX at *; omega
              subst hje
              have q1 : 0 < (hfL m (x : Int) (y : Int) (hfX m.h (y : Int)) 0).length := hfA_ps hxl hyl
              have q2 : (hfL m (x : Int) (y : Int) (hfX m.h (y : Int)) 0).length ≤ 4 := hfA_le m _ _
              have q3 : ∀ p ∈ hfL m (x : Int) (y : Int) (hfX m.h (y : Int)) 0, validP p = true := hfA_ok hm (by omega) (by omega)
              have hyx := yxI hz2 hyl hxl
              simp only [yxW hz2 hyl hxl, Int.toNat_natCast]
              all_goals (try with_reducible (repeat' (first | apply And.intro | intro _)))
              all_goals (try (first | with_reducible refine wa_id ?_ | exact True.intro | exact pmean_fn _ (by assumption) (by assumption) (by assumption) | omega))
              refine V_regionX Γ Δ [] [0, 1, 2, 3, 4, 5, 6, 7, 8, 9, 10, 26, 27, 28, 30, 31, 32, 43, 55] (evs ?_)
              all_goals (try with_reducible (repeat' (first | apply And.intro | intro _)))
              all_goals (try (first | with_reducible refine wa_id ?_ | exact True.intro | omega))
              refine V_next [] (x + 1) (evs ?_) ?_ ?_
              all_goals (try with_reducible (repeat' (first | apply And.intro | intro _)))
              all_goals (first | exact True.intro | omega | (first | exact w64l (n := 65536) (by omega) (by omega) | exact filP_setC (by rw [gP_at (by omega)]; rfl)))
        · refine V_exit (evs ?_)
          refine V_regionX Γ Δ [] [0, 1, 2, 3, 4, 5, 6, 7, 8, 9, 10, 26, 27, 28, 30, 31, 32, 43, 55] (evs ?_)
          all_goals (try with_reducible (repeat' (first | apply And.intro | intro _)))
          all_goals (try (first | with_reducible refine wa_id ?_ | exact True.intro | omega))
          refine V_next [] (y + 1) (evs ?_) ?_ ?_
          all_goals (try with_reducible (repeat' (first | apply And.intro | intro _)))
          all_goals (first | exact True.intro | omega | (first | exact w64l (n := 65536) (by omega) (by omega) | (rw [row_e (y := y) (x := x) (w := (hfN m.w).toNat) (by omega) (by omega)]; done)))
    · refine V_exit (evs ?_)
      refine WA_seq (x := (fcd Tryz.f35 [1, 1, 1, 1, 0])) (y := (fcd Tryz.f35 [1, 1, 1, 1, 1])) ?_
      refine V_regionX Γ Δ [] [0, 1, 2, 3, 4, 5, 6, 7, 8, 9, 10, 26, 27, 28, 30, 31, 32, 43, 55] (evs ?_)
      all_goals (try with_reducible (repeat' (first | apply And.intro | intro _)))
      all_goals (try (first | with_reducible refine wa_id ?_ | exact True.intro | omega))
      refine V_ret (evs ?_)
      first | (rw [fallP hY hc]; rfl) | (rw [fallP hY hc]; exact ⟨rfl, rfl, (filP_len _ _ _ _), rfl⟩)

end Go.S35

