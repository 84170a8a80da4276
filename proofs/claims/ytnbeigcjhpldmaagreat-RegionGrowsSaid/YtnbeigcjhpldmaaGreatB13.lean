import Derived.Test.YtnbeigcjhpldmaaGreatB12
import Derived.Test.YtnbeigcjhpldmaaGreatA1
set_option linter.unusedSimpArgs false
set_option linter.unusedVariables false
set_option linter.unusedSimpArgs false
set_option linter.unusedVariables false
namespace Go.S03
open Go.RowKit Go.Proofs Go.Eng Go.Rect
theorem has3_fn (a : List Rc) (p : Pt) : Eng.Fn Tryz.prog 31 [.sl 4 (a.map rcC), ptD p] (.dat (.b (hasR a p))) := by
  refine Eng.Fn.by (fn := Tryz.f31) 18 [.tmp 4] Tryz.func31 rfl Tryz.ntmps31 rfl (by simp) fun w0 G0 => ?_
  refine WA_seq (x := (fcd Tryz.f31 [0])) (y := (fcd Tryz.f31 [1])) ?_
  refine V_regionX Γ Δ [] [0, 1, 3, 4, 6, 8, 9, 10, 11, 16] (evs ?_)
  all_goals (try with_reducible (repeat' (first | apply And.intro | intro _)))
  all_goals (try (first | with_reducible refine wa_id ?_ | exact True.intro | omega | exact els_fn _ | exact has_fn _ ⟨_, _⟩))
  refine WA_seq (x := (fcd Tryz.f31 [1, 0])) (y := (fcd Tryz.f31 [1, 1])) ?_
  refine WA_seq (x := (fcd Tryz.f31 [1, 0, 0])) (y := (fcd Tryz.f31 [1, 0, 1])) ?_
  refine V_regionX Γ Δ [] [0, 1, 3, 4, 6, 8, 9, 10, 11, 16] (evs ?_)
  all_goals (try with_reducible (repeat' (first | apply And.intro | intro _)))
  all_goals (try (first | with_reducible refine wa_id ?_ | exact True.intro | exact els_fn _ | omega | exact els_fn _ | exact has_fn _ ⟨_, _⟩))
  refine WA_block (c := (fcd Tryz.f31 [1, 0, 1, 0])) ?_
  refine V_loop (c := (fcd Tryz.f31 [1, 0, 1, 0, 0])) (α := Nat) [4, 6, 10, 11, 16] [6, 11600, 11601, 11602, 11603] (fun k => [(10, .dat (.i (k : Int)))]) (fun k => []) (fun k => k ≤ (els a).length ∧ ∀ j, j < k → hasB ((els a).getD j zR) p = false) (fun k => (els a).length - k) 0 [] ?_ (evs ?_) ?_
  · exact ⟨Nat.zero_le _, fun j hj => by omega⟩
  · (try with_reducible (repeat' (first | apply And.intro | intro _)))
    all_goals (first | exact True.intro | omega | (first | rfl))
  · intro k hI
    refine WA_seq (x := (fcd Tryz.f31 [1, 0, 1, 0, 0, 0])) (y := (fcd Tryz.f31 [1, 0, 1, 0, 0, 1])) ?_
    refine V_regionX Γ Δ [] [0, 1, 3, 4, 6, 8, 9, 10, 11, 16] (evs ?_)
    all_goals (try with_reducible (repeat' (first | apply And.intro | intro _)))
    all_goals (try (first | with_reducible refine wa_id ?_ | exact True.intro | omega | exact els_fn _ | exact has_fn _ ⟨_, _⟩))
    refine WA_seq (x := (fcd Tryz.f31 [1, 0, 1, 0, 0, 1, 0])) (y := (fcd Tryz.f31 [1, 0, 1, 0, 0, 1, 1])) ?_
    refine V_cond (evs ?_)
    refine ⟨fun hc => ?_, fun hc => ?_⟩
    · refine WA_skip ?_
      refine WA_seq (x := (fcd Tryz.f31 [1, 0, 1, 0, 0, 1, 1, 0])) (y := (fcd Tryz.f31 [1, 0, 1, 0, 0, 1, 1, 1])) ?_
      refine WA_block (c := (fcd Tryz.f31 [1, 0, 1, 0, 0, 1, 1, 0, 0])) ?_
      refine WA_seq (x := (fcd Tryz.f31 [1, 0, 1, 0, 0, 1, 1, 0, 0, 0])) (y := (fcd Tryz.f31 [1, 0, 1, 0, 0, 1, 1, 0, 0, 1])) ?_
      refine V_regionX Γ Δ [] [0, 1, 3, 4, 6, 8, 9, 10, 11, 16] (evs ?_)
      all_goals (try with_reducible (repeat' (first | apply And.intro | intro _)))
      all_goals (try (first | with_reducible refine wa_id ?_ | exact True.intro | omega | exact els_fn _ | exact has_fn _ ⟨_, _⟩))
      refine WA_seq (x := (fcd Tryz.f31 [1, 0, 1, 0, 0, 1, 1, 0, 0, 1, 0])) (y := (fcd Tryz.f31 [1, 0, 1, 0, 0, 1, 1, 0, 0, 1, 1])) ?_
      refine V_regionX Γ Δ [] [0, 1, 3, 4, 6, 8, 9, 10, 11, 16] (evs ?_)
      all_goals (try with_reducible (repeat' (first | apply And.intro | intro _)))
      all_goals (try (first | with_reducible refine wa_id ?_ | exact True.intro | exact has_fn _ ⟨_, _⟩ | omega | exact els_fn _ | exact has_fn _ ⟨_, _⟩))
      refine V_cond (evs ?_)
      refine ⟨fun hc => ?_, fun hc => ?_⟩
      · refine WA_seq (x := (fcd Tryz.f31 [1, 0, 1, 0, 0, 1, 1, 0, 0, 1, 1, 0, 0])) (y := (fcd Tryz.f31 [1, 0, 1, 0, 0, 1, 1, 0, 0, 1, 1, 0, 1])) ?_
        refine V_regionX Γ Δ [] [0, 1, 3, 4, 6, 8, 9, 10, 11, 16] (evs ?_)
        all_goals (try with_reducible (repeat' (first | apply And.intro | intro _)))
        all_goals (try (first | with_reducible refine wa_id ?_ | exact True.intro | omega | exact els_fn _ | exact has_fn _ ⟨_, _⟩))
        refine V_ret (evs ?_)
        first | exact any_1 zR ‹_› hc | exact any_2 zR hc hI.2
      · refine WA_skip ?_
        refine V_regionX Γ Δ [] [0, 1, 3, 4, 6, 8, 9, 10, 11, 16] (evs ?_)
        all_goals (try with_reducible (repeat' (first | apply And.intro | intro _)))
        all_goals (try (first | with_reducible refine wa_id ?_ | exact True.intro | omega | exact els_fn _ | exact has_fn _ ⟨_, _⟩))
        refine V_next [] (k + 1) (evs ?_) ?_ ?_
        all_goals (try with_reducible (repeat' (first | apply And.intro | intro _)))
        all_goals (first | exact True.intro | omega | (first | exact w64l (n := 256) (by have := els_len a; omega) (by omega) | exact all_s (p := fun j => hasB ((els a).getD j zR) p = false) hI.2 hc _ ‹_›))
    · refine V_exit (evs ?_)
      refine WA_seq (x := (fcd Tryz.f31 [1, 1, 0])) (y := (fcd Tryz.f31 [1, 1, 1])) ?_
      refine V_regionX Γ Δ [] [0, 1, 3, 4, 6, 8, 9, 10, 11, 16] (evs ?_)
      all_goals (try with_reducible (repeat' (first | apply And.intro | intro _)))
      all_goals (try (first | with_reducible refine wa_id ?_ | exact True.intro | omega | exact els_fn _ | exact has_fn _ ⟨_, _⟩))
      refine V_ret (evs ?_)
      first | exact any_1 zR ‹_› hc | exact any_2 zR hc hI.2

theorem area3_fn (a : List Rc) : Eng.Fn Tryz.prog 29 [.sl 4 (a.map rcC)] (.dat (.i (areaL (canoF orB a [])))) := by
  refine Eng.Fn.by (fn := Tryz.f29) 19 [.tmp 2] Tryz.func29 rfl Tryz.ntmps29 rfl (by simp) fun w0 G0 => ?_
  refine WA_seq (x := (fcd Tryz.f29 [0])) (y := (fcd Tryz.f29 [1])) ?_
  refine V_regionX Γ Δ [] [0, 2, 3, 5, 7, 8, 9, 10] (evs ?_)
  all_goals (try with_reducible (repeat' (first | apply And.intro | intro _)))
  all_goals (try (first | with_reducible refine wa_id ?_ | exact True.intro | omega | exact of3_fn _ | exact area_fn ⟨_, _, _, _⟩))
  refine WA_seq (x := (fcd Tryz.f29 [1, 0])) (y := (fcd Tryz.f29 [1, 1])) ?_
  refine V_regionX Γ Δ [] [0, 2, 3, 5, 7, 8, 9, 10] (evs ?_)
  all_goals (try with_reducible (repeat' (first | apply And.intro | intro _)))
  all_goals (try (first | with_reducible refine wa_id ?_ | exact True.intro | omega | exact of3_fn _ | exact area_fn ⟨_, _, _, _⟩))
  refine WA_seq (x := (fcd Tryz.f29 [1, 1, 0])) (y := (fcd Tryz.f29 [1, 1, 1])) ?_
  refine WA_seq (x := (fcd Tryz.f29 [1, 1, 0, 0])) (y := (fcd Tryz.f29 [1, 1, 0, 1])) ?_
  refine V_regionX Γ Δ [] [0, 2, 3, 5, 7, 8, 9, 10] (evs ?_)
  all_goals (try with_reducible (repeat' (first | apply And.intro | intro _)))
  all_goals (try (first | with_reducible refine wa_id ?_ | exact True.intro | exact of3_fn _ | omega | exact of3_fn _ | exact area_fn ⟨_, _, _, _⟩))
  refine WA_block (c := (fcd Tryz.f29 [1, 1, 0, 1, 0])) ?_
  refine V_loop (c := (fcd Tryz.f29 [1, 1, 0, 1, 0, 0])) (α := Nat) [3, 5, 9, 10] [5, 11500, 11501, 11502, 11503] (fun k => [(9, .dat (.i (k : Int))), (3, .dat (.i (arK (canoF orB a []) k)))]) (fun k => []) (fun k => k ≤ (canoF orB a []).length) (fun k => (canoF orB a []).length - k) 0 [] ?_ (evs ?_) ?_
  · exact Nat.zero_le _
  · (try with_reducible (repeat' (first | apply And.intro | intro _)))
    all_goals (first | exact True.intro | omega | (first | rfl))
  · intro k hI
    refine WA_seq (x := (fcd Tryz.f29 [1, 1, 0, 1, 0, 0, 0])) (y := (fcd Tryz.f29 [1, 1, 0, 1, 0, 0, 1])) ?_
    refine V_regionX Γ Δ [] [0, 2, 3, 5, 7, 8, 9, 10] (evs ?_)
    all_goals (try with_reducible (repeat' (first | apply And.intro | intro _)))
    all_goals (try (first | with_reducible refine wa_id ?_ | exact True.intro | omega | exact of3_fn _ | exact area_fn ⟨_, _, _, _⟩))
    refine WA_seq (x := (fcd Tryz.f29 [1, 1, 0, 1, 0, 0, 1, 0])) (y := (fcd Tryz.f29 [1, 1, 0, 1, 0, 0, 1, 1])) ?_
    refine V_cond (evs ?_)
    refine ⟨fun hc => ?_, fun hc => ?_⟩
    · refine WA_skip ?_
      refine WA_seq (x := (fcd Tryz.f29 [1, 1, 0, 1, 0, 0, 1, 1, 0])) (y := (fcd Tryz.f29 [1, 1, 0, 1, 0, 0, 1, 1, 1])) ?_
      refine WA_block (c := (fcd Tryz.f29 [1, 1, 0, 1, 0, 0, 1, 1, 0, 0])) ?_
      refine WA_seq (x := (fcd Tryz.f29 [1, 1, 0, 1, 0, 0, 1, 1, 0, 0, 0])) (y := (fcd Tryz.f29 [1, 1, 0, 1, 0, 0, 1, 1, 0, 0, 1])) ?_
      refine V_regionX Γ Δ [] [0, 2, 3, 5, 7, 8, 9, 10] (evs ?_)
      all_goals (try with_reducible (repeat' (first | apply And.intro | intro _)))
      all_goals (try (first | with_reducible refine wa_id ?_ | exact True.intro | omega | exact of3_fn _ | exact area_fn ⟨_, _, _, _⟩))
      refine V_regionX Γ Δ [] [0, 2, 3, 5, 7, 8, 9, 10] (evs ?_)
      all_goals (try with_reducible (repeat' (first | apply And.intro | intro _)))
      all_goals (try (first | with_reducible refine wa_id ?_ | exact True.intro | exact area_fn _ | omega | exact of3_fn _ | exact area_fn ⟨_, _, _, _⟩))
      refine V_regionX Γ Δ [] [0, 2, 3, 5, 7, 8, 9, 10] (evs ?_)
      all_goals (try with_reducible (repeat' (first | apply And.intro | intro _)))
      all_goals (try (first | with_reducible refine wa_id ?_ | exact True.intro | omega | exact of3_fn _ | exact area_fn ⟨_, _, _, _⟩))
      refine V_next [] (k + 1) (evs ?_) ?_ ?_
      all_goals (try with_reducible (repeat' (first | apply And.intro | intro _)))
      all_goals (first | exact True.intro | omega | (first | rfl | exact w64n ‹(k : Int) < _› ‹_›))
    · refine V_exit (evs ?_)
      refine WA_seq (x := (fcd Tryz.f29 [1, 1, 1, 0])) (y := (fcd Tryz.f29 [1, 1, 1, 1])) ?_
      refine V_regionX Γ Δ [] [0, 2, 3, 5, 7, 8, 9, 10] (evs ?_)
      all_goals (try with_reducible (repeat' (first | apply And.intro | intro _)))
      all_goals (try (first | with_reducible refine wa_id ?_ | exact True.intro | omega | exact of3_fn _ | exact area_fn ⟨_, _, _, _⟩))
      refine V_ret (evs ?_)
      first | rfl | (rw [areaL, show k = (canoF orB a []).length from by omega]; done)

theorem box3_fn (a : List Rc) : Eng.Fn Tryz.prog 30 [.sl 4 (a.map rcC)] (.dat (rcD (boxL (els a)))) := by
  refine Eng.Fn.by (fn := Tryz.f30) 18 [.cell 2 34] Tryz.func30 rfl Tryz.ntmps30 rfl (by simp) fun w0 G0 => ?_
  refine WA_seq (x := (fcd Tryz.f30 [0])) (y := (fcd Tryz.f30 [1])) ?_
  refine V_regionX Γ Δ [] [0, 2, 3, 5, 7, 8, 9, 10] (evs ?_)
  all_goals (try with_reducible (repeat' (first | apply And.intro | intro _)))
  all_goals (try (first | with_reducible refine wa_id ?_ | exact True.intro | omega | exact els_fn _ | exact join_fn ⟨_, _, _, _⟩ ⟨_, _, _, _⟩))
  refine WA_seq (x := (fcd Tryz.f30 [1, 0])) (y := (fcd Tryz.f30 [1, 1])) ?_
  refine V_regionX Γ Δ [] [0, 2, 3, 5, 7, 8, 9, 10] (evs ?_)
  all_goals (try with_reducible (repeat' (first | apply And.intro | intro _)))
  all_goals (try (first | with_reducible refine wa_id ?_ | exact True.intro | omega | exact els_fn _ | exact join_fn ⟨_, _, _, _⟩ ⟨_, _, _, _⟩))
  refine WA_seq (x := (fcd Tryz.f30 [1, 1, 0])) (y := (fcd Tryz.f30 [1, 1, 1])) ?_
  refine WA_seq (x := (fcd Tryz.f30 [1, 1, 0, 0])) (y := (fcd Tryz.f30 [1, 1, 0, 1])) ?_
  refine V_regionX Γ Δ [] [0, 2, 3, 5, 7, 8, 9, 10] (evs ?_)
  all_goals (try with_reducible (repeat' (first | apply And.intro | intro _)))
  all_goals (try (first | with_reducible refine wa_id ?_ | exact True.intro | exact els_fn _ | omega | exact els_fn _ | exact join_fn ⟨_, _, _, _⟩ ⟨_, _, _, _⟩))
  refine WA_block (c := (fcd Tryz.f30 [1, 1, 0, 1, 0])) ?_
  refine V_loop (c := (fcd Tryz.f30 [1, 1, 0, 1, 0, 0])) (α := Nat) [5, 9, 10] [3, 5, 11500, 11501, 11502, 11503] (fun k => [(9, .dat (.i (k : Int)))]) (fun k => [(3, some (true, .box 34 [.dat (.i (boxK (els a) k).x), .dat (.i (boxK (els a) k).y), .dat (.i (boxK (els a) k).w), .dat (.i (boxK (els a) k).h)]))]) (fun k => k ≤ (els a).length) (fun k => (els a).length - k) 0 [] ?_ (evs ?_) ?_
  · exact Nat.zero_le _
  · (try with_reducible (repeat' (first | apply And.intro | intro _)))
    all_goals (first | exact True.intro | omega | (first | rfl))
  · intro k hI
    refine WA_seq (x := (fcd Tryz.f30 [1, 1, 0, 1, 0, 0, 0])) (y := (fcd Tryz.f30 [1, 1, 0, 1, 0, 0, 1])) ?_
    refine V_regionX Γ Δ [] [0, 2, 3, 5, 7, 8, 9, 10] (evs ?_)
    all_goals (try with_reducible (repeat' (first | apply And.intro | intro _)))
    all_goals (try (first | with_reducible refine wa_id ?_ | exact True.intro | omega | exact els_fn _ | exact join_fn ⟨_, _, _, _⟩ ⟨_, _, _, _⟩))
    refine WA_seq (x := (fcd Tryz.f30 [1, 1, 0, 1, 0, 0, 1, 0])) (y := (fcd Tryz.f30 [1, 1, 0, 1, 0, 0, 1, 1])) ?_
    refine V_cond (evs ?_)
    refine ⟨fun hc => ?_, fun hc => ?_⟩
    · refine WA_skip ?_
      refine WA_seq (x := (fcd Tryz.f30 [1, 1, 0, 1, 0, 0, 1, 1, 0])) (y := (fcd Tryz.f30 [1, 1, 0, 1, 0, 0, 1, 1, 1])) ?_
      refine WA_block (c := (fcd Tryz.f30 [1, 1, 0, 1, 0, 0, 1, 1, 0, 0])) ?_
      refine WA_seq (x := (fcd Tryz.f30 [1, 1, 0, 1, 0, 0, 1, 1, 0, 0, 0])) (y := (fcd Tryz.f30 [1, 1, 0, 1, 0, 0, 1, 1, 0, 0, 1])) ?_
      refine V_regionX Γ Δ [] [0, 2, 3, 5, 7, 8, 9, 10] (evs ?_)
      all_goals (try with_reducible (repeat' (first | apply And.intro | intro _)))
      all_goals (try (first | with_reducible refine wa_id ?_ | exact True.intro | omega | exact els_fn _ | exact join_fn ⟨_, _, _, _⟩ ⟨_, _, _, _⟩))
      refine V_regionX Γ Δ [] [0, 2, 3, 5, 7, 8, 9, 10] (evs ?_)
      all_goals (try with_reducible (repeat' (first | apply And.intro | intro _)))
      all_goals (try (first | with_reducible refine wa_id ?_ | exact True.intro | exact join_fn _ _ | omega | exact els_fn _ | exact join_fn ⟨_, _, _, _⟩ ⟨_, _, _, _⟩))
      refine V_regionX Γ Δ [] [0, 2, 3, 5, 7, 8, 9, 10] (evs ?_)
      all_goals (try with_reducible (repeat' (first | apply And.intro | intro _)))
      all_goals (try (first | with_reducible refine wa_id ?_ | exact True.intro | omega | exact els_fn _ | exact join_fn ⟨_, _, _, _⟩ ⟨_, _, _, _⟩))
      refine V_next [] (k + 1) (evs ?_) ?_ ?_
      all_goals (try with_reducible (repeat' (first | apply And.intro | intro _)))
      all_goals (first | exact True.intro | omega | (first | rfl | exact w64l (n := 256) (by have := els_len a; omega) (by omega)))
    · refine V_exit (evs ?_)
      refine WA_seq (x := (fcd Tryz.f30 [1, 1, 1, 0])) (y := (fcd Tryz.f30 [1, 1, 1, 1])) ?_
      refine V_regionX Γ Δ [] [0, 2, 3, 5, 7, 8, 9, 10] (evs ?_)
      all_goals (try with_reducible (repeat' (first | apply And.intro | intro _)))
      all_goals (try (first | with_reducible refine wa_id ?_ | exact True.intro | omega | exact els_fn _ | exact join_fn ⟨_, _, _, _⟩ ⟨_, _, _, _⟩))
      refine V_ret (evs ?_)
      first | rfl | (rw [boxL, show k = (els a).length from by omega]; exact ⟨rfl, rfl, rfl, rfl⟩)

theorem grow3_fn (a : List Rc) (n : Int) : Eng.Fn Tryz.prog 7 [.sl 4 (a.map rcC), .i n] (.own 34 4 ((canoF orB (growL (clampI n 0 1048576) (els a)) []).map rcC)) := by
  refine Eng.Fn.by (fn := Tryz.f7) 28 [.tmp 4] Tryz.func7 rfl Tryz.ntmps7 rfl (by simp) fun w0 G0 => ?_
  refine WA_seq (x := (fcd Tryz.f7 [0])) (y := (fcd Tryz.f7 [1])) ?_
  refine V_regionX Γ Δ [] [0, 1, 4, 5, 6, 7, 12, 13, 14, 15] (evs ?_)
  all_goals (try with_reducible (repeat' (first | apply And.intro | intro _)))
  all_goals (try (first | with_reducible refine wa_id ?_ | exact True.intro | omega | exact els_fn _ | exact grow_fn ⟨_, _, _, _⟩ _ | exact of3_fn _))
  refine WA_seq (x := (fcd Tryz.f7 [1, 0])) (y := (fcd Tryz.f7 [1, 1])) ?_
  refine V_regionX Γ Δ [] [0, 1, 4, 5, 6, 7, 12, 13, 14, 15] (evs ?_)
  all_goals (try with_reducible (repeat' (first | apply And.intro | intro _)))
  all_goals (try (first | with_reducible refine wa_id ?_ | exact True.intro | exact clamp_fn _ _ _ | omega | exact els_fn _ | exact grow_fn ⟨_, _, _, _⟩ _ | exact of3_fn _))
  refine WA_seq (x := (fcd Tryz.f7 [1, 1, 0])) (y := (fcd Tryz.f7 [1, 1, 1])) ?_
  refine V_regionX Γ Δ [] [0, 1, 4, 5, 6, 7, 12, 13, 14, 15] (evs ?_)
  all_goals (try with_reducible (repeat' (first | apply And.intro | intro _)))
  all_goals (try (first | with_reducible refine wa_id ?_ | exact True.intro | exact els_fn _ | omega | exact els_fn _ | exact grow_fn ⟨_, _, _, _⟩ _ | exact of3_fn _))
  refine WA_seq (x := (fcd Tryz.f7 [1, 1, 1, 0])) (y := (fcd Tryz.f7 [1, 1, 1, 1])) ?_
  refine WA_seq (x := (fcd Tryz.f7 [1, 1, 1, 0, 0])) (y := (fcd Tryz.f7 [1, 1, 1, 0, 1])) ?_
  refine V_regionX Γ Δ [] [0, 1, 4, 5, 6, 7, 12, 13, 14, 15] (evs ?_)
  all_goals (try with_reducible (repeat' (first | apply And.intro | intro _)))
  all_goals (try (first | with_reducible refine wa_id ?_ | exact True.intro | omega | exact els_fn _ | exact grow_fn ⟨_, _, _, _⟩ _ | exact of3_fn _))
  refine WA_block (c := (fcd Tryz.f7 [1, 1, 1, 0, 1, 0])) ?_
  refine V_loop (c := (fcd Tryz.f7 [1, 1, 1, 0, 1, 0, 0])) (α := Nat) [6, 7, 14, 15] [7, 11100, 12300, 12301, 12302, 12303] (fun k => [(14, .dat (.i (k : Int)))]) (fun k => [(11100, some (true, .arr 34 4 ((grK (clampI n 0 1048576) (els a) k).map rcC)))]) (fun k => k ≤ (els a).length) (fun k => (els a).length - k) 0 [] ?_ (evs ?_) ?_
  · exact Nat.zero_le _
  · (try with_reducible (repeat' (first | apply And.intro | intro _)))
    all_goals (first | exact True.intro | omega | (first | rfl | (rw [grK_0]; done)))
  · intro k hI
    refine WA_seq (x := (fcd Tryz.f7 [1, 1, 1, 0, 1, 0, 0, 0])) (y := (fcd Tryz.f7 [1, 1, 1, 0, 1, 0, 0, 1])) ?_
    refine V_regionX Γ Δ [] [0, 1, 4, 5, 6, 7, 12, 13, 14, 15] (evs ?_)
    all_goals (try with_reducible (repeat' (first | apply And.intro | intro _)))
    all_goals (try (first | with_reducible refine wa_id ?_ | exact True.intro | omega | exact els_fn _ | exact grow_fn ⟨_, _, _, _⟩ _ | exact of3_fn _))
    refine WA_seq (x := (fcd Tryz.f7 [1, 1, 1, 0, 1, 0, 0, 1, 0])) (y := (fcd Tryz.f7 [1, 1, 1, 0, 1, 0, 0, 1, 1])) ?_
    refine V_cond (evs ?_)
    refine ⟨fun hc => ?_, fun hc => ?_⟩
    · refine WA_skip ?_
      refine WA_seq (x := (fcd Tryz.f7 [1, 1, 1, 0, 1, 0, 0, 1, 1, 0])) (y := (fcd Tryz.f7 [1, 1, 1, 0, 1, 0, 0, 1, 1, 1])) ?_
      refine WA_block (c := (fcd Tryz.f7 [1, 1, 1, 0, 1, 0, 0, 1, 1, 0, 0])) ?_
      refine WA_seq (x := (fcd Tryz.f7 [1, 1, 1, 0, 1, 0, 0, 1, 1, 0, 0, 0])) (y := (fcd Tryz.f7 [1, 1, 1, 0, 1, 0, 0, 1, 1, 0, 0, 1])) ?_
      refine V_regionX Γ Δ [] [0, 1, 4, 5, 6, 7, 12, 13, 14, 15] (evs ?_)
      have hg1 := grK_at (n := (clampI n 0 1048576)) ‹(k : Int) < ((els a).length : Int)›
      have hg2 := grK_len (n := (clampI n 0 1048576)) (l := els a) hI
      try simp only [hg1]
      all_goals (try with_reducible (repeat' (first | apply And.intro | intro _)))
      all_goals (try (first | with_reducible refine wa_id ?_ | exact True.intro | omega | exact els_fn _ | exact grow_fn ⟨_, _, _, _⟩ _ | exact of3_fn _))
      refine V_regionX Γ Δ [] [0, 1, 4, 5, 6, 7, 12, 13, 14, 15] (evs ?_)
      all_goals (try with_reducible (repeat' (first | apply And.intro | intro _)))
      all_goals (try (first | with_reducible refine wa_id ?_ | exact True.intro | exact grow_fn _ _ | omega | exact els_fn _ | exact grow_fn ⟨_, _, _, _⟩ _ | exact of3_fn _))
      refine V_regionX Γ Δ [] [0, 1, 4, 5, 6, 7, 12, 13, 14, 15] (evs ?_)
      all_goals (try with_reducible (repeat' (first | apply And.intro | intro _)))
      all_goals (try (first | with_reducible refine wa_id ?_ | exact True.intro | omega | exact els_fn _ | exact grow_fn ⟨_, _, _, _⟩ _ | exact of3_fn _))
      refine V_next [] (k + 1) (evs ?_) ?_ ?_
      all_goals (try with_reducible (repeat' (first | apply And.intro | intro _)))
      all_goals (first | exact True.intro | omega | (first | rfl | exact w64l (n := 256) (by have := els_len a; omega) (by omega) | exact grK_s ‹_›))
    · refine V_exit (evs ?_)
      refine WA_seq (x := (fcd Tryz.f7 [1, 1, 1, 1, 0])) (y := (fcd Tryz.f7 [1, 1, 1, 1, 1])) ?_
      refine V_regionX Γ Δ [] [0, 1, 4, 5, 6, 7, 12, 13, 14, 15] (evs ?_)
      have hgl := growL_len (clampI n 0 1048576) (els a)
      simp only [grK_all hc, tkG, mapRc]
      all_goals (try with_reducible (repeat' (first | apply And.intro | intro _)))
      all_goals (try (first | with_reducible refine wa_id ?_ | exact True.intro | exact of3_fn _ | omega | exact els_fn _ | exact grow_fn ⟨_, _, _, _⟩ _ | exact of3_fn _))
      refine V_ret (evs ?_)
      first | exact True.intro | rfl

end Go.S03

