import Derived.Test.YtnbeigcjhpldmaaGreatF03
set_option linter.unusedSimpArgs false
set_option linter.unusedVariables false
set_option linter.unusedSimpArgs false
set_option linter.unusedVariables false
namespace Go.S03
open Go.RowKit Go.Proofs Go.Eng Go.Rect
theorem isnan_fn (a : Int) : Eng.Fn Tryz.prog 36 [.i a] (.dat (.b false)) := by
  refine Eng.Fn.by (fn := Tryz.f36) 6 [.tmp 2] Tryz.func36 rfl Tryz.ntmps36 rfl (by simp) fun w0 G0 => ?_
  refine WA_seq (x := (fcd Tryz.f36 [0])) (y := (fcd Tryz.f36 [1])) ?_
  refine V_regionX Γ Δ [] [0, 2] (evs ?_)
  all_goals (try with_reducible (repeat' (first | apply And.intro | intro _)))
  all_goals (try (first | with_reducible refine wa_id ?_ | exact True.intro | omega))
  refine WA_seq (x := (fcd Tryz.f36 [1, 0])) (y := (fcd Tryz.f36 [1, 1])) ?_
  refine V_regionX Γ Δ [] [0, 2] (evs ?_)
  all_goals (try with_reducible (repeat' (first | apply And.intro | intro _)))
  all_goals (try (first | with_reducible refine wa_id ?_ | exact True.intro | omega))
  refine V_ret (evs ?_)
  first | rfl | (simp; done)

theorem compare_fn (a b : Int) : Eng.Fn Tryz.prog 15 [.i a, .i b] (.dat (.i (cmpI a b))) := by
  refine Eng.Fn.by (fn := Tryz.f15) 20 [.tmp 4] Tryz.func15 rfl Tryz.ntmps15 rfl (by simp) fun w0 G0 => ?_
  refine WA_seq (x := (fcd Tryz.f15 [0])) (y := (fcd Tryz.f15 [1])) ?_
  refine V_regionX Γ Δ [] [0, 1, 4, 5, 6, 11, 12, 13, 16, 19] (evs ?_)
  all_goals (try with_reducible (repeat' (first | apply And.intro | intro _)))
  all_goals (try (first | with_reducible refine wa_id ?_ | exact True.intro | omega))
  refine WA_seq (x := (fcd Tryz.f15 [1, 0])) (y := (fcd Tryz.f15 [1, 1])) ?_
  refine V_regionX Γ Δ [] [0, 1, 4, 5, 6, 11, 12, 13, 16, 19] (evs ?_)
  all_goals (try with_reducible (repeat' (first | apply And.intro | intro _)))
  all_goals (try (first | with_reducible refine wa_id ?_ | exact True.intro | exact isnan_fn _ | omega))
  refine WA_seq (x := (fcd Tryz.f15 [1, 1, 0])) (y := (fcd Tryz.f15 [1, 1, 1])) ?_
  refine V_regionX Γ Δ [] [0, 1, 4, 5, 6, 11, 12, 13, 16, 19] (evs ?_)
  all_goals (try with_reducible (repeat' (first | apply And.intro | intro _)))
  all_goals (try (first | with_reducible refine wa_id ?_ | exact True.intro | exact isnan_fn _ | omega))
  refine WA_seq (x := (fcd Tryz.f15 [1, 1, 1, 0])) (y := (fcd Tryz.f15 [1, 1, 1, 1])) ?_
  refine WA_seq (x := (fcd Tryz.f15 [1, 1, 1, 0, 0])) (y := (fcd Tryz.f15 [1, 1, 1, 0, 1])) ?_
  refine V_regionX Γ Δ [] [0, 1, 4, 5, 6, 11, 12, 13, 16, 19] (evs ?_)
  all_goals (try with_reducible (repeat' (first | apply And.intro | intro _)))
  all_goals (try (first | with_reducible refine wa_id ?_ | exact True.intro | omega))
  refine V_cond (evs ?_)
  refine ⟨fun hc => hc.elim, ?_⟩
  refine WA_skip ?_
  refine WA_seq (x := (fcd Tryz.f15 [1, 1, 1, 1, 0])) (y := (fcd Tryz.f15 [1, 1, 1, 1, 1])) ?_
  refine WA_seq (x := (fcd Tryz.f15 [1, 1, 1, 1, 0, 0])) (y := (fcd Tryz.f15 [1, 1, 1, 1, 0, 1])) ?_
  refine V_regionX Γ Δ [] [0, 1, 4, 5, 6, 11, 12, 13, 16, 19] (evs ?_)
  all_goals (try with_reducible (repeat' (first | apply And.intro | intro _)))
  all_goals (try (first | with_reducible refine wa_id ?_ | exact True.intro | omega))
  refine V_cond (evs ?_)
  refine ⟨fun hc => hc.elim, ?_⟩
  refine WA_skip ?_
  refine WA_seq (x := (fcd Tryz.f15 [1, 1, 1, 1, 1, 0])) (y := (fcd Tryz.f15 [1, 1, 1, 1, 1, 1])) ?_
  refine WA_seq (x := (fcd Tryz.f15 [1, 1, 1, 1, 1, 0, 0])) (y := (fcd Tryz.f15 [1, 1, 1, 1, 1, 0, 1])) ?_
  refine V_regionX Γ Δ [] [0, 1, 4, 5, 6, 11, 12, 13, 16, 19] (evs ?_)
  all_goals (try with_reducible (repeat' (first | apply And.intro | intro _)))
  all_goals (try (first | with_reducible refine wa_id ?_ | exact True.intro | omega))
  refine V_cond (evs ?_)
  refine ⟨fun hc => ?_, fun hc => ?_⟩
  · refine WA_seq (x := (fcd Tryz.f15 [1, 1, 1, 1, 1, 0, 1, 0, 0])) (y := (fcd Tryz.f15 [1, 1, 1, 1, 1, 0, 1, 0, 1])) ?_
    refine V_regionX Γ Δ [] [0, 1, 4, 5, 6, 11, 12, 13, 16, 19] (evs ?_)
    all_goals (try with_reducible (repeat' (first | apply And.intro | intro _)))
    all_goals (try (first | with_reducible refine wa_id ?_ | exact True.intro | omega))
    refine V_ret (evs ?_)
    first | exact kc1 hc | exact kc2 (by omega) hc | exact kc3 (by omega) (by omega)
  · refine WA_skip ?_
    refine WA_seq (x := (fcd Tryz.f15 [1, 1, 1, 1, 1, 1, 0])) (y := (fcd Tryz.f15 [1, 1, 1, 1, 1, 1, 1])) ?_
    refine WA_seq (x := (fcd Tryz.f15 [1, 1, 1, 1, 1, 1, 0, 0])) (y := (fcd Tryz.f15 [1, 1, 1, 1, 1, 1, 0, 1])) ?_
    refine V_regionX Γ Δ [] [0, 1, 4, 5, 6, 11, 12, 13, 16, 19] (evs ?_)
    all_goals (try with_reducible (repeat' (first | apply And.intro | intro _)))
    all_goals (try (first | with_reducible refine wa_id ?_ | exact True.intro | omega))
    refine V_cond (evs ?_)
    refine ⟨fun hc => ?_, fun hc => ?_⟩
    · refine WA_seq (x := (fcd Tryz.f15 [1, 1, 1, 1, 1, 1, 0, 1, 0, 0])) (y := (fcd Tryz.f15 [1, 1, 1, 1, 1, 1, 0, 1, 0, 1])) ?_
      refine V_regionX Γ Δ [] [0, 1, 4, 5, 6, 11, 12, 13, 16, 19] (evs ?_)
      all_goals (try with_reducible (repeat' (first | apply And.intro | intro _)))
      all_goals (try (first | with_reducible refine wa_id ?_ | exact True.intro | omega))
      refine V_ret (evs ?_)
      first | exact kc1 hc | exact kc2 (by omega) hc | exact kc3 (by omega) (by omega)
    · refine WA_skip ?_
      refine WA_seq (x := (fcd Tryz.f15 [1, 1, 1, 1, 1, 1, 1, 0])) (y := (fcd Tryz.f15 [1, 1, 1, 1, 1, 1, 1, 1])) ?_
      refine V_regionX Γ Δ [] [0, 1, 4, 5, 6, 11, 12, 13, 16, 19] (evs ?_)
      all_goals (try with_reducible (repeat' (first | apply And.intro | intro _)))
      all_goals (try (first | with_reducible refine wa_id ?_ | exact True.intro | omega))
      refine V_ret (evs ?_)
      first | exact kc1 hc | exact kc2 (by omega) hc | exact kc3 (by omega) (by omega)

theorem or_fn (l : List Int) : Eng.Fn Tryz.prog 14 [.sl 1 (l.map iC)] (.dat (.i (orI l))) := by
  refine Eng.Fn.by (fn := Tryz.f14) 18 [.tmp 2] Tryz.func14 rfl Tryz.ntmps14 rfl (by simp) fun w0 G0 => ?_
  refine WA_seq (x := (fcd Tryz.f14 [0])) (y := (fcd Tryz.f14 [1])) ?_
  refine V_regionX Γ Δ [] [0, 2, 3, 5, 6, 7, 8, 9, 14] (evs ?_)
  all_goals (try with_reducible (repeat' (first | apply And.intro | intro _)))
  all_goals (try (first | with_reducible refine wa_id ?_ | exact True.intro | omega))
  refine WA_seq (x := (fcd Tryz.f14 [1, 0])) (y := (fcd Tryz.f14 [1, 1])) ?_
  refine V_regionX Γ Δ [] [0, 2, 3, 5, 6, 7, 8, 9, 14] (evs ?_)
  all_goals (try with_reducible (repeat' (first | apply And.intro | intro _)))
  all_goals (try (first | with_reducible refine wa_id ?_ | exact True.intro | omega))
  refine WA_seq (x := (fcd Tryz.f14 [1, 1, 0])) (y := (fcd Tryz.f14 [1, 1, 1])) ?_
  refine WA_seq (x := (fcd Tryz.f14 [1, 1, 0, 0])) (y := (fcd Tryz.f14 [1, 1, 0, 1])) ?_
  refine V_regionX Γ Δ [] [0, 2, 3, 5, 6, 7, 8, 9, 14] (evs ?_)
  all_goals (try with_reducible (repeat' (first | apply And.intro | intro _)))
  all_goals (try (first | with_reducible refine wa_id ?_ | exact True.intro | omega))
  refine WA_block (c := (fcd Tryz.f14 [1, 1, 0, 1, 0])) ?_
  refine V_loop (c := (fcd Tryz.f14 [1, 1, 0, 1, 0, 0])) (α := Nat) [2, 5, 8, 9, 14] [] (fun k => [(8, .dat (.i (k : Int)))]) (fun k => []) (fun k => k ≤ l.length ∧ ∀ j, j < k → l.getD j 0 = 0) (fun k => l.length - k) 0 [] ?_ (evs ?_) ?_
  · exact ⟨Nat.zero_le _, fun j hj => by omega⟩
  · (try with_reducible (repeat' (first | apply And.intro | intro _)))
    all_goals (first | exact True.intro | omega | (first | rfl))
  · intro k hI
    refine WA_seq (x := (fcd Tryz.f14 [1, 1, 0, 1, 0, 0, 0])) (y := (fcd Tryz.f14 [1, 1, 0, 1, 0, 0, 1])) ?_
    refine V_regionX Γ Δ [] [0, 2, 3, 5, 6, 7, 8, 9, 14] (evs ?_)
    all_goals (try with_reducible (repeat' (first | apply And.intro | intro _)))
    all_goals (try (first | with_reducible refine wa_id ?_ | exact True.intro | omega))
    refine WA_seq (x := (fcd Tryz.f14 [1, 1, 0, 1, 0, 0, 1, 0])) (y := (fcd Tryz.f14 [1, 1, 0, 1, 0, 0, 1, 1])) ?_
    refine V_cond (evs ?_)
    refine ⟨fun hc => ?_, fun hc => ?_⟩
    · refine WA_skip ?_
      refine WA_seq (x := (fcd Tryz.f14 [1, 1, 0, 1, 0, 0, 1, 1, 0])) (y := (fcd Tryz.f14 [1, 1, 0, 1, 0, 0, 1, 1, 1])) ?_
      refine WA_block (c := (fcd Tryz.f14 [1, 1, 0, 1, 0, 0, 1, 1, 0, 0])) ?_
      refine WA_seq (x := (fcd Tryz.f14 [1, 1, 0, 1, 0, 0, 1, 1, 0, 0, 0])) (y := (fcd Tryz.f14 [1, 1, 0, 1, 0, 0, 1, 1, 0, 0, 1])) ?_
      refine V_regionX Γ Δ [] [0, 2, 3, 5, 6, 7, 8, 9, 14] (evs ?_)
      all_goals (try with_reducible (repeat' (first | apply And.intro | intro _)))
      all_goals (try (first | with_reducible refine wa_id ?_ | exact True.intro | omega))
      refine WA_seq (x := (fcd Tryz.f14 [1, 1, 0, 1, 0, 0, 1, 1, 0, 0, 1, 0])) (y := (fcd Tryz.f14 [1, 1, 0, 1, 0, 0, 1, 1, 0, 0, 1, 1])) ?_
      refine V_regionX Γ Δ [] [0, 2, 3, 5, 6, 7, 8, 9, 14] (evs ?_)
      all_goals (try with_reducible (repeat' (first | apply And.intro | intro _)))
      all_goals (try (first | with_reducible refine wa_id ?_ | exact True.intro | omega))
      refine V_cond (evs ?_)
      refine ⟨fun hc => ?_, fun hc => ?_⟩
      · refine WA_seq (x := (fcd Tryz.f14 [1, 1, 0, 1, 0, 0, 1, 1, 0, 0, 1, 1, 0, 0])) (y := (fcd Tryz.f14 [1, 1, 0, 1, 0, 0, 1, 1, 0, 0, 1, 1, 0, 1])) ?_
        refine V_regionX Γ Δ [] [0, 2, 3, 5, 6, 7, 8, 9, 14] (evs ?_)
        all_goals (try with_reducible (repeat' (first | apply And.intro | intro _)))
        all_goals (try (first | with_reducible refine wa_id ?_ | exact True.intro | omega))
        refine V_ret (evs ?_)
        first | exact or_1 hI.2 ‹_› hc | exact or_2 hI.2 hc
      · refine WA_skip ?_
        refine V_regionX Γ Δ [] [0, 2, 3, 5, 6, 7, 8, 9, 14] (evs ?_)
        all_goals (try with_reducible (repeat' (first | apply And.intro | intro _)))
        all_goals (try (first | with_reducible refine wa_id ?_ | exact True.intro | omega))
        refine V_next [] (k + 1) (evs ?_) ?_ ?_
        all_goals (try with_reducible (repeat' (first | apply And.intro | intro _)))
        all_goals (first | exact True.intro | omega | (first | exact w64l ‹(k : Int) < _› ‹l.length ≤ 281474976710656› | exact or_s hI.2 hc _ ‹_›))
    · refine V_exit (evs ?_)
      refine WA_seq (x := (fcd Tryz.f14 [1, 1, 1, 0])) (y := (fcd Tryz.f14 [1, 1, 1, 1])) ?_
      refine V_regionX Γ Δ [] [0, 2, 3, 5, 6, 7, 8, 9, 14] (evs ?_)
      all_goals (try with_reducible (repeat' (first | apply And.intro | intro _)))
      all_goals (try (first | with_reducible refine wa_id ?_ | exact True.intro | omega))
      refine V_ret (evs ?_)
      first | exact or_1 hI.2 ‹_› hc | exact or_2 hI.2 hc

theorem rowcmp_fn (p q : Rw) : Eng.Fn Tryz.prog 80 [rnD p, rnD q] (.dat (.i (cmpRw p q))) := by
  refine Eng.Fn.by (fn := Tryz.f80) 17 [.tmp 4] Tryz.func80 rfl Tryz.ntmps80 rfl (by simp) fun w0 G0 => ?_
  refine WA_seq (x := (fcd Tryz.f80 [0])) (y := (fcd Tryz.f80 [1])) ?_
  refine V_regionX Γ Δ [] [0, 1, 2, 3, 4] (evs ?_)
  all_goals (try with_reducible (repeat' (first | apply And.intro | intro _)))
  all_goals (try (first | with_reducible refine wa_id ?_ | exact True.intro | omega | exact or_fn [_, _]))
  refine WA_seq (x := (fcd Tryz.f80 [1, 0])) (y := (fcd Tryz.f80 [1, 1])) ?_
  refine V_draw Γ [] [0, 1, 2, 3, 4] mixed (by kernel_rfl) (evs ?_)
  all_goals (try with_reducible (repeat' (first | apply And.intro | intro _)))
  all_goals (try (first | with_reducible refine wa_id ?_ | exact True.intro | exact compare_fn _ _ | exact or_fn _ | omega | exact or_fn [_, _]))
  refine V_ret (evs ?_)
  first | exact or_rw _ _

theorem tilecmp_fn (p q : Pt) : Eng.Fn Tryz.prog 13 [ptD p, ptD q] (.dat (.i (cmpPt p q))) := by
  refine Eng.Fn.by (fn := Tryz.f13) 17 [.tmp 4] Tryz.func13 rfl Tryz.ntmps13 rfl (by simp) fun w0 G0 => ?_
  refine WA_seq (x := (fcd Tryz.f13 [0])) (y := (fcd Tryz.f13 [1])) ?_
  refine V_regionX Γ Δ [] [0, 1, 2, 3, 4] (evs ?_)
  all_goals (try with_reducible (repeat' (first | apply And.intro | intro _)))
  all_goals (try (first | with_reducible refine wa_id ?_ | exact True.intro | omega | exact or_fn [_, _]))
  refine WA_seq (x := (fcd Tryz.f13 [1, 0])) (y := (fcd Tryz.f13 [1, 1])) ?_
  refine V_draw Γ [] [0, 1, 2, 3, 4] mixed (by kernel_rfl) (evs ?_)
  all_goals (try with_reducible (repeat' (first | apply And.intro | intro _)))
  all_goals (try (first | with_reducible refine wa_id ?_ | exact True.intro | exact compare_fn _ _ | exact or_fn _ | omega | exact or_fn [_, _]))
  refine V_ret (evs ?_)
  first | exact or_pt _ _

theorem eqrw_fn (a b : List Rw) : Eng.Fn Tryz.prog 50 [.sl 2 (a.map rnC), .sl 2 (b.map rnC)] (.dat (.b (sameL a b))) := by
  refine Eng.Fn.by (fn := Tryz.f50) 26 [.tmp 4] Tryz.func50 rfl Tryz.ntmps50 rfl (by simp) fun w0 G0 => ?_
  refine WA_seq (x := (fcd Tryz.f50 [0])) (y := (fcd Tryz.f50 [1])) ?_
  refine V_regionX Γ Δ [] [0, 1, 4, 5, 10, 12, 13, 14, 24] (evs ?_)
  all_goals (try with_reducible (repeat' (first | apply And.intro | intro _)))
  all_goals (try (first | with_reducible refine wa_id ?_ | exact True.intro | omega))
  refine WA_seq (x := (fcd Tryz.f50 [1, 0])) (y := (fcd Tryz.f50 [1, 1])) ?_
  refine WA_seq (x := (fcd Tryz.f50 [1, 0, 0])) (y := (fcd Tryz.f50 [1, 0, 1])) ?_
  refine V_regionX Γ Δ [] [0, 1, 4, 5, 10, 12, 13, 14, 24] (evs ?_)
  all_goals (try with_reducible (repeat' (first | apply And.intro | intro _)))
  all_goals (try (first | with_reducible refine wa_id ?_ | exact True.intro | omega))
  refine V_cond (evs ?_)
  refine ⟨fun hc => ?_, fun hc => ?_⟩
  · refine WA_seq (x := (fcd Tryz.f50 [1, 0, 1, 0, 0])) (y := (fcd Tryz.f50 [1, 0, 1, 0, 1])) ?_
    refine V_regionX Γ Δ [] [0, 1, 4, 5, 10, 12, 13, 14, 24] (evs ?_)
    all_goals (try with_reducible (repeat' (first | apply And.intro | intro _)))
    all_goals (try (first | with_reducible refine wa_id ?_ | exact True.intro | omega))
    refine V_ret (evs ?_)
    first | exact sm1 hc | exact sm2 zN (rw_ne hc) | exact sm5 zN ‹_› hI ‹_›
  · refine WA_skip ?_
    refine WA_seq (x := (fcd Tryz.f50 [1, 1, 0])) (y := (fcd Tryz.f50 [1, 1, 1])) ?_
    refine WA_seq (x := (fcd Tryz.f50 [1, 1, 0, 0])) (y := (fcd Tryz.f50 [1, 1, 0, 1])) ?_
    refine V_regionX Γ Δ [] [0, 1, 4, 5, 10, 12, 13, 14, 24] (evs ?_)
    all_goals (try with_reducible (repeat' (first | apply And.intro | intro _)))
    all_goals (try (first | with_reducible refine wa_id ?_ | exact True.intro | omega))
    refine WA_block (c := (fcd Tryz.f50 [1, 1, 0, 1, 0])) ?_
    refine V_loop (c := (fcd Tryz.f50 [1, 1, 0, 1, 0, 0])) (α := Nat) [4, 5, 13, 14, 24] [] (fun k => [(13, .dat (.i (k : Int)))]) (fun k => []) (fun k => k ≤ a.length ∧ ∀ j, j < k → a.getD j zN = b.getD j zN) (fun k => a.length - k) 0 [] ?_ (evs ?_) ?_
    · exact ⟨Nat.zero_le _, fun j hj => by omega⟩
    · (try with_reducible (repeat' (first | apply And.intro | intro _)))
      all_goals (first | exact True.intro | omega | (first | rfl))
    · intro k hI
      refine WA_seq (x := (fcd Tryz.f50 [1, 1, 0, 1, 0, 0, 0])) (y := (fcd Tryz.f50 [1, 1, 0, 1, 0, 0, 1])) ?_
      refine V_regionX Γ Δ [] [0, 1, 4, 5, 10, 12, 13, 14, 24] (evs ?_)
      all_goals (try with_reducible (repeat' (first | apply And.intro | intro _)))
      all_goals (try (first | with_reducible refine wa_id ?_ | exact True.intro | omega))
      refine WA_seq (x := (fcd Tryz.f50 [1, 1, 0, 1, 0, 0, 1, 0])) (y := (fcd Tryz.f50 [1, 1, 0, 1, 0, 0, 1, 1])) ?_
      refine V_cond (evs ?_)
      refine ⟨fun hc => ?_, fun hc => ?_⟩
      · refine WA_skip ?_
        refine WA_seq (x := (fcd Tryz.f50 [1, 1, 0, 1, 0, 0, 1, 1, 0])) (y := (fcd Tryz.f50 [1, 1, 0, 1, 0, 0, 1, 1, 1])) ?_
        refine WA_block (c := (fcd Tryz.f50 [1, 1, 0, 1, 0, 0, 1, 1, 0, 0])) ?_
        refine WA_seq (x := (fcd Tryz.f50 [1, 1, 0, 1, 0, 0, 1, 1, 0, 0, 0])) (y := (fcd Tryz.f50 [1, 1, 0, 1, 0, 0, 1, 1, 0, 0, 1])) ?_
        refine V_regionX Γ Δ [] [0, 1, 4, 5, 10, 12, 13, 14, 24] (evs ?_)
        all_goals (try with_reducible (repeat' (first | apply And.intro | intro _)))
        all_goals (try (first | with_reducible refine wa_id ?_ | exact True.intro | omega))
        refine WA_seq (x := (fcd Tryz.f50 [1, 1, 0, 1, 0, 0, 1, 1, 0, 0, 1, 0])) (y := (fcd Tryz.f50 [1, 1, 0, 1, 0, 0, 1, 1, 0, 0, 1, 1])) ?_
        refine V_draw Γ [] [0, 1, 4, 5, 10, 12, 13, 14, 24] mixed (by kernel_rfl) (evs ?_)
        all_goals (try with_reducible (repeat' (first | apply And.intro | intro _)))
        all_goals (try (first | with_reducible refine wa_id ?_ | exact True.intro | omega))
        refine V_cond (evs ?_)
        refine ⟨fun hc => ?_, fun hc => ?_⟩
        · refine WA_seq (x := (fcd Tryz.f50 [1, 1, 0, 1, 0, 0, 1, 1, 0, 0, 1, 1, 0, 0])) (y := (fcd Tryz.f50 [1, 1, 0, 1, 0, 0, 1, 1, 0, 0, 1, 1, 0, 1])) ?_
          refine V_regionX Γ Δ [] [0, 1, 4, 5, 10, 12, 13, 14, 24] (evs ?_)
          all_goals (try with_reducible (repeat' (first | apply And.intro | intro _)))
          all_goals (try (first | with_reducible refine wa_id ?_ | exact True.intro | omega))
          refine V_ret (evs ?_)
          first | exact sm1 hc | exact sm2 zN (rw_ne hc) | exact sm5 zN ‹_› hI ‹_›
        · refine WA_skip ?_
          refine V_regionX Γ Δ [] [0, 1, 4, 5, 10, 12, 13, 14, 24] (evs ?_)
          all_goals (try with_reducible (repeat' (first | apply And.intro | intro _)))
          all_goals (try (first | with_reducible refine wa_id ?_ | exact True.intro | omega))
          refine V_next [] (k + 1) (evs ?_) ?_ ?_
          all_goals (try with_reducible (repeat' (first | apply And.intro | intro _)))
          all_goals (first | exact True.intro | omega | (first | exact w64l ‹(k : Int) < _› ‹a.length ≤ 281474976710656› | exact sm4 zN hI.2 ‹_› (rw_ext hc)))
      · refine V_exit (evs ?_)
        refine WA_seq (x := (fcd Tryz.f50 [1, 1, 1, 0])) (y := (fcd Tryz.f50 [1, 1, 1, 1])) ?_
        refine V_regionX Γ Δ [] [0, 1, 4, 5, 10, 12, 13, 14, 24] (evs ?_)
        all_goals (try with_reducible (repeat' (first | apply And.intro | intro _)))
        all_goals (try (first | with_reducible refine wa_id ?_ | exact True.intro | omega))
        refine V_ret (evs ?_)
        first | exact sm1 hc | exact sm2 zN (rw_ne hc) | exact sm5 zN ‹_› hI ‹_›

set_option maxRecDepth 100000 in
theorem goes_fn (a : List Rc) (b : List Rw) (y : Int) (hw : Wd a) : Eng.Fn Tryz.prog 70 [.sl 4 (a.map rcC), .sl 2 (b.map rnC), .i y] (.dat (.b (goB a b y))) := by
  refine Eng.Fn.by (fn := Tryz.f70) 52 [.tmp 6] Tryz.func70 rfl Tryz.ntmps70 rfl (by simp) fun w0 G0 => ?_
  refine WA_seq (x := (fcd Tryz.f70 [0])) (y := (fcd Tryz.f70 [1])) ?_
  refine V_regionX Γ Δ [] [0, 1, 2, 6, 7, 8, 13, 14, 15, 16, 17, 50] (evs ?_)
  all_goals (try with_reducible (repeat' (first | apply And.intro | intro _)))
  all_goals (try (first | with_reducible refine wa_id ?_ | exact True.intro | omega))
  refine WA_seq (x := (fcd Tryz.f70 [1, 0])) (y := (fcd Tryz.f70 [1, 1])) ?_
  refine WA_seq (x := (fcd Tryz.f70 [1, 0, 0])) (y := (fcd Tryz.f70 [1, 0, 1])) ?_
  refine V_regionX Γ Δ [] [0, 1, 2, 6, 7, 8, 13, 14, 15, 16, 17, 50] (evs ?_)
  all_goals (try with_reducible (repeat' (first | apply And.intro | intro _)))
  all_goals (try (first | with_reducible refine wa_id ?_ | exact True.intro | omega))
  refine V_cond (evs ?_)
  refine ⟨fun hc => ?_, fun hc => ?_⟩
  · refine WA_seq (x := (fcd Tryz.f70 [1, 0, 1, 0, 0])) (y := (fcd Tryz.f70 [1, 0, 1, 0, 1])) ?_
    refine V_regionX Γ Δ [] [0, 1, 2, 6, 7, 8, 13, 14, 15, 16, 17, 50] (evs ?_)
    all_goals (try with_reducible (repeat' (first | apply And.intro | intro _)))
    all_goals (try (first | with_reducible refine wa_id ?_ | exact True.intro | omega))
    refine V_ret (evs ?_)
    first | exact go_1 hc | exact go_2 ‹_› (fun e => by obtain ⟨e1, e2, e3⟩ := e; omega) | exact go_3 ‹_› hI.2 hc
  · refine WA_skip ?_
    refine WA_seq (x := (fcd Tryz.f70 [1, 1, 0])) (y := (fcd Tryz.f70 [1, 1, 1])) ?_
    refine WA_seq (x := (fcd Tryz.f70 [1, 1, 0, 0])) (y := (fcd Tryz.f70 [1, 1, 0, 1])) ?_
    refine V_regionX Γ Δ [] [0, 1, 2, 6, 7, 8, 13, 14, 15, 16, 17, 50] (evs ?_)
    all_goals (try with_reducible (repeat' (first | apply And.intro | intro _)))
    all_goals (try (first | with_reducible refine wa_id ?_ | exact True.intro | omega))
    refine WA_block (c := (fcd Tryz.f70 [1, 1, 0, 1, 0])) ?_
    refine V_loop (c := (fcd Tryz.f70 [1, 1, 0, 1, 0, 0])) (α := Nat) [6, 7, 8, 16, 17, 50] [8] (fun k => [(16, .dat (.i (k : Int)))]) (fun k => []) (fun k => k ≤ a.length ∧ ∀ j, j < k → goP (a.getD j zR) (b.getD j zN) y) (fun k => a.length - k) 0 [] ?_ (evs ?_) ?_
    · exact ⟨Nat.zero_le _, fun j hj => by omega⟩
    · (try with_reducible (repeat' (first | apply And.intro | intro _)))
      all_goals (first | exact True.intro | omega | (first | rfl))
    · intro k hI
      refine WA_seq (x := (fcd Tryz.f70 [1, 1, 0, 1, 0, 0, 0])) (y := (fcd Tryz.f70 [1, 1, 0, 1, 0, 0, 1])) ?_
      refine V_regionX Γ Δ [] [0, 1, 2, 6, 7, 8, 13, 14, 15, 16, 17, 50] (evs ?_)
      all_goals (try with_reducible (repeat' (first | apply And.intro | intro _)))
      all_goals (try (first | with_reducible refine wa_id ?_ | exact True.intro | omega))
      refine WA_seq (x := (fcd Tryz.f70 [1, 1, 0, 1, 0, 0, 1, 0])) (y := (fcd Tryz.f70 [1, 1, 0, 1, 0, 0, 1, 1])) ?_
      refine V_cond (evs ?_)
      refine ⟨fun hc => ?_, fun hc => ?_⟩
      · refine WA_skip ?_
        refine WA_seq (x := (fcd Tryz.f70 [1, 1, 0, 1, 0, 0, 1, 1, 0])) (y := (fcd Tryz.f70 [1, 1, 0, 1, 0, 0, 1, 1, 1])) ?_
        refine WA_block (c := (fcd Tryz.f70 [1, 1, 0, 1, 0, 0, 1, 1, 0, 0])) ?_
        refine WA_seq (x := (fcd Tryz.f70 [1, 1, 0, 1, 0, 0, 1, 1, 0, 0, 0])) (y := (fcd Tryz.f70 [1, 1, 0, 1, 0, 0, 1, 1, 0, 0, 1])) ?_
        refine V_regionX Γ Δ [] [0, 1, 2, 6, 7, 8, 13, 14, 15, 16, 17, 50] (evs ?_)
        all_goals (try with_reducible (repeat' (first | apply And.intro | intro _)))
        all_goals (try (first | with_reducible refine wa_id ?_ | exact True.intro | omega))
        refine WA_seq (x := (fcd Tryz.f70 [1, 1, 0, 1, 0, 0, 1, 1, 0, 0, 1, 0])) (y := (fcd Tryz.f70 [1, 1, 0, 1, 0, 0, 1, 1, 0, 0, 1, 1])) ?_
        refine V_draw Γ [] [0, 1, 2, 6, 7, 8, 13, 14, 15, 16, 17, 50] mixed (by kernel_rfl) (evs ?_)
        have hq := wd_at hw ‹(k : Int) < _›
        (try simp (maxSteps := 10000000) (disch := omega) only [w64])
        all_goals (try with_reducible (repeat' (first | apply And.intro | intro _)))
        all_goals (try (first | with_reducible refine wa_id ?_ | exact True.intro | omega))
        refine V_cond (evs ?_)
        refine ⟨fun hc => ?_, fun hc => ?_⟩
        · refine WA_seq (x := (fcd Tryz.f70 [1, 1, 0, 1, 0, 0, 1, 1, 0, 0, 1, 1, 0, 0])) (y := (fcd Tryz.f70 [1, 1, 0, 1, 0, 0, 1, 1, 0, 0, 1, 1, 0, 1])) ?_
          refine V_regionX Γ Δ [] [0, 1, 2, 6, 7, 8, 13, 14, 15, 16, 17, 50] (evs ?_)
          all_goals (try with_reducible (repeat' (first | apply And.intro | intro _)))
          all_goals (try (first | with_reducible refine wa_id ?_ | exact True.intro | omega))
          refine V_ret (evs ?_)
          first | exact go_1 hc | exact go_2 ‹_› (fun e => by obtain ⟨e1, e2, e3⟩ := e; omega) | exact go_3 ‹_› hI.2 hc
        · refine WA_skip ?_
          refine V_regionX Γ Δ [] [0, 1, 2, 6, 7, 8, 13, 14, 15, 16, 17, 50] (evs ?_)
          all_goals (try with_reducible (repeat' (first | apply And.intro | intro _)))
          all_goals (try (first | with_reducible refine wa_id ?_ | exact True.intro | omega))
          refine V_next [] (k + 1) (evs ?_) ?_ ?_
          all_goals (try with_reducible (repeat' (first | apply And.intro | intro _)))
          all_goals (first | exact True.intro | omega | (first | exact w64l ‹(k : Int) < _› ‹a.length ≤ 281474976710656› | (refine all_s (p := fun j => goP (a.getD j zR) (b.getD j zN) y) hI.2 ?_ _ ‹_›; show goP _ _ _; unfold goP; omega)))
      · refine V_exit (evs ?_)
        refine WA_seq (x := (fcd Tryz.f70 [1, 1, 1, 0])) (y := (fcd Tryz.f70 [1, 1, 1, 1])) ?_
        refine V_regionX Γ Δ [] [0, 1, 2, 6, 7, 8, 13, 14, 15, 16, 17, 50] (evs ?_)
        all_goals (try with_reducible (repeat' (first | apply And.intro | intro _)))
        all_goals (try (first | with_reducible refine wa_id ?_ | exact True.intro | omega))
        refine V_ret (evs ?_)
        first | exact go_1 hc | exact go_2 ‹_› (fun e => by obtain ⟨e1, e2, e3⟩ := e; omega) | exact go_3 ‹_› hI.2 hc

end Go.S03

