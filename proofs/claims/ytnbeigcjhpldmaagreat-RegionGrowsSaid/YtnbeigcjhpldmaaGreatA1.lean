import Derived.Test.YtnbeigcjhpldmaaGreatF03
set_option linter.unusedSimpArgs false
set_option linter.unusedVariables false
set_option linter.unusedSimpArgs false
set_option linter.unusedVariables false
namespace Go.S03
open Go.RowKit Go.Proofs Go.Eng Go.Rect
theorem span_fn (x w : Int) : Eng.Fn Tryz.prog 71 [.i x, .i w] (.dat (.b (spanB x w))) := by
  refine Eng.Fn.by (fn := Tryz.f71) 21 [.tmp 4] Tryz.func71 rfl Tryz.ntmps71 rfl (by simp) fun w0 G0 => ?_
  refine WA_seq (x := (fcd Tryz.f71 [0])) (y := (fcd Tryz.f71 [1])) ?_
  refine V_regionX Γ Δ [] [0, 1, 4] (evs ?_)
  all_goals (try with_reducible (repeat' (first | apply And.intro | intro _)))
  all_goals (try (first | with_reducible refine wa_id ?_ | exact True.intro | omega))
  refine WA_seq (x := (fcd Tryz.f71 [1, 0])) (y := (fcd Tryz.f71 [1, 1])) ?_
  refine V_regionX Γ Δ [] [0, 1, 4] (evs ?_)
  all_goals (try with_reducible (repeat' (first | apply And.intro | intro _)))
  all_goals (try (first | with_reducible refine wa_id ?_ | exact True.intro | omega))
  refine V_ret (evs ?_)
  rw [Bool.eq_iff_iff]; simp only [spanB, Bool.and_eq_true, decide_eq_true_eq]
  constructor
  all_goals (intro ⟨⟨⟨h1, h2⟩, h3⟩, h4⟩; rw [w64 (by omega) (by omega)] at *; exact ⟨⟨⟨h1, h2⟩, h3⟩, h4⟩)

theorem valid_fn (r : Rc) : Eng.Fn Tryz.prog 54 [rcD r] (.dat (.b (validB r))) := by
  refine Eng.Fn.by (fn := Tryz.f54) 15 [.tmp 2] Tryz.func54 rfl Tryz.ntmps54 rfl (by simp) fun w0 G0 => ?_
  refine WA_seq (x := (fcd Tryz.f54 [0])) (y := (fcd Tryz.f54 [1])) ?_
  refine V_regionX Γ Δ [] [0, 1, 2] (evs ?_)
  all_goals (try with_reducible (repeat' (first | apply And.intro | intro _)))
  all_goals (try (first | with_reducible refine wa_id ?_ | exact True.intro | omega))
  refine WA_seq (x := (fcd Tryz.f54 [1, 0])) (y := (fcd Tryz.f54 [1, 1])) ?_
  refine V_regionX Γ Δ [] [0, 1, 2] (evs ?_)
  all_goals (try with_reducible (repeat' (first | apply And.intro | intro _)))
  all_goals (try (first | with_reducible refine wa_id ?_ | exact True.intro | exact span_fn _ _ | omega))
  refine V_ret (evs ?_)
  rfl

theorem empty_fn (r : Rc) : Eng.Fn Tryz.prog 32 [rcD r] (.dat (.b (emptyB r))) := by
  refine Eng.Fn.by (fn := Tryz.f32) 16 [.tmp 2] Tryz.func32 rfl Tryz.ntmps32 rfl (by simp) fun w0 G0 => ?_
  refine WA_seq (x := (fcd Tryz.f32 [0])) (y := (fcd Tryz.f32 [1])) ?_
  refine V_regionX Γ Δ [] [0, 1, 2] (evs ?_)
  all_goals (try with_reducible (repeat' (first | apply And.intro | intro _)))
  all_goals (try (first | with_reducible refine wa_id ?_ | exact True.intro | omega))
  refine WA_seq (x := (fcd Tryz.f32 [1, 0])) (y := (fcd Tryz.f32 [1, 1])) ?_
  refine V_regionX Γ Δ [] [0, 1, 2] (evs ?_)
  all_goals (try with_reducible (repeat' (first | apply And.intro | intro _)))
  all_goals (try (first | with_reducible refine wa_id ?_ | exact True.intro | exact valid_fn _ | omega))
  refine V_ret (evs ?_)
  rfl

theorem has_fn (r : Rc) (p : Pt) : Eng.Fn Tryz.prog 53 [rcD r, ptD p] (.dat (.b (hasB r p))) := by
  refine Eng.Fn.by (fn := Tryz.f53) 41 [.tmp 4] Tryz.func53 rfl Tryz.ntmps53 rfl (by simp) fun w0 G0 => ?_
  refine WA_seq (x := (fcd Tryz.f53 [0])) (y := (fcd Tryz.f53 [1])) ?_
  refine V_regionX Γ Δ [] [0, 1, 2, 3, 4] (evs ?_)
  all_goals (try with_reducible (repeat' (first | apply And.intro | intro _)))
  all_goals (try (first | with_reducible refine wa_id ?_ | exact True.intro | omega))
  refine WA_seq (x := (fcd Tryz.f53 [1, 0])) (y := (fcd Tryz.f53 [1, 1])) ?_
  refine V_regionX Γ Δ [] [0, 1, 2, 3, 4] (evs ?_)
  all_goals (try with_reducible (repeat' (first | apply And.intro | intro _)))
  all_goals (try (first | with_reducible refine wa_id ?_ | exact True.intro | exact valid_fn _ | omega))
  refine V_ret (evs ?_)
  exact fin_has

theorem area_fn (r : Rc) : Eng.Fn Tryz.prog 51 [rcD r] (.dat (.i (areaI r))) := by
  refine Eng.Fn.by (fn := Tryz.f51) 10 [.tmp 2] Tryz.func51 rfl Tryz.ntmps51 rfl (by simp) fun w0 G0 => ?_
  refine WA_seq (x := (fcd Tryz.f51 [0])) (y := (fcd Tryz.f51 [1])) ?_
  refine V_regionX Γ Δ [] [0, 1, 2, 4] (evs ?_)
  all_goals (try with_reducible (repeat' (first | apply And.intro | intro _)))
  all_goals (try (first | with_reducible refine wa_id ?_ | exact True.intro | omega))
  refine WA_seq (x := (fcd Tryz.f51 [1, 0])) (y := (fcd Tryz.f51 [1, 1])) ?_
  refine WA_seq (x := (fcd Tryz.f51 [1, 0, 0])) (y := (fcd Tryz.f51 [1, 0, 1])) ?_
  refine V_regionX Γ Δ [] [0, 1, 2, 4] (evs ?_)
  all_goals (try with_reducible (repeat' (first | apply And.intro | intro _)))
  all_goals (try (first | with_reducible refine wa_id ?_ | exact True.intro | exact empty_fn _ | omega))
  refine V_cond (evs ?_)
  refine ⟨fun hc => ?_, fun hc => ?_⟩
  · refine WA_seq (x := (fcd Tryz.f51 [1, 0, 1, 0, 0])) (y := (fcd Tryz.f51 [1, 0, 1, 0, 1])) ?_
    refine V_regionX Γ Δ [] [0, 1, 2, 4] (evs ?_)
    all_goals (try with_reducible (repeat' (first | apply And.intro | intro _)))
    all_goals (try (first | with_reducible refine wa_id ?_ | exact True.intro | omega))
    refine V_ret (evs ?_)
    first | exact fin_a1 hc | exact fin_a2 hc
  · refine WA_skip ?_
    refine WA_seq (x := (fcd Tryz.f51 [1, 1, 0])) (y := (fcd Tryz.f51 [1, 1, 1])) ?_
    refine V_regionX Γ Δ [] [0, 1, 2, 4] (evs ?_)
    all_goals (try with_reducible (repeat' (first | apply And.intro | intro _)))
    all_goals (try (first | with_reducible refine wa_id ?_ | exact True.intro | omega))
    refine V_ret (evs ?_)
    first | exact fin_a1 hc | exact fin_a2 hc

theorem between_fn (x0 y0 x1 y1 : Int) : Eng.Fn Tryz.prog 42 [.i x0, .i y0, .i x1, .i y1] (.dat (rcD (betweenR x0 y0 x1 y1))) := by
  refine Eng.Fn.by (fn := Tryz.f42) 35 [.cell 8 34] Tryz.func42 rfl Tryz.ntmps42 rfl (by simp) fun w0 G0 => ?_
  refine WA_seq (x := (fcd Tryz.f42 [0])) (y := (fcd Tryz.f42 [1])) ?_
  refine V_regionX Γ Δ [] [0, 1, 2, 3, 8, 24] (evs ?_)
  all_goals (try with_reducible (repeat' (first | apply And.intro | intro _)))
  all_goals (try (first | with_reducible refine wa_id ?_ | exact True.intro | omega))
  refine WA_seq (x := (fcd Tryz.f42 [1, 0])) (y := (fcd Tryz.f42 [1, 1])) ?_
  refine V_regionX Γ Δ [] [0, 1, 2, 3, 8, 24] (evs ?_)
  all_goals (try with_reducible (repeat' (first | apply And.intro | intro _)))
  all_goals (try (first | with_reducible refine wa_id ?_ | exact True.intro | omega))
  refine WA_seq (x := (fcd Tryz.f42 [1, 1, 0])) (y := (fcd Tryz.f42 [1, 1, 1])) ?_
  refine V_regionX Γ Δ [] [0, 1, 2, 3, 8, 24] (evs ?_)
  all_goals (try with_reducible (repeat' (first | apply And.intro | intro _)))
  all_goals (try (first | with_reducible refine wa_id ?_ | exact True.intro | omega))
  refine WA_seq (x := (fcd Tryz.f42 [1, 1, 1, 0])) (y := (fcd Tryz.f42 [1, 1, 1, 1])) ?_
  refine WA_seq (x := (fcd Tryz.f42 [1, 1, 1, 0, 0])) (y := (fcd Tryz.f42 [1, 1, 1, 0, 1])) ?_
  refine V_regionX Γ Δ [] [0, 1, 2, 3, 8, 24] (evs ?_)
  all_goals (try with_reducible (repeat' (first | apply And.intro | intro _)))
  all_goals (try (first | with_reducible refine wa_id ?_ | exact True.intro | omega))
  refine V_cond (evs ?_)
  refine ⟨fun hc => ?_, fun hc => ?_⟩
  · refine WA_seq (x := (fcd Tryz.f42 [1, 1, 1, 0, 1, 0, 0])) (y := (fcd Tryz.f42 [1, 1, 1, 0, 1, 0, 1])) ?_
    refine V_regionX Γ Δ [] [0, 1, 2, 3, 8, 24] (evs ?_)
    all_goals (try with_reducible (repeat' (first | apply And.intro | intro _)))
    all_goals (try (first | with_reducible refine wa_id ?_ | exact True.intro | omega))
    refine V_ret (evs ?_)
    first | exact fe (r := zR) (fin_b1 hc) | exact fe (fin_b2 hc)
  · refine WA_skip ?_
    refine WA_seq (x := (fcd Tryz.f42 [1, 1, 1, 1, 0])) (y := (fcd Tryz.f42 [1, 1, 1, 1, 1])) ?_
    refine V_regionX Γ Δ [] [0, 1, 2, 3, 8, 24] (evs ?_)
    all_goals (try with_reducible (repeat' (first | apply And.intro | intro _)))
    all_goals (try (first | with_reducible refine wa_id ?_ | exact True.intro | omega))
    refine V_ret (evs ?_)
    first | exact fe (r := zR) (fin_b1 hc) | exact fe (fin_b2 hc)

set_option maxRecDepth 100000 in
theorem join_fn (a b : Rc) : Eng.Fn Tryz.prog 52 [rcD a, rcD b] (.dat (rcD (joinR a b))) := by
  refine Eng.Fn.by (fn := Tryz.f52) 54 [.cell 4 34] Tryz.func52 rfl Tryz.ntmps52 rfl (by simp) fun w0 G0 => ?_
  refine WA_seq (x := (fcd Tryz.f52 [0])) (y := (fcd Tryz.f52 [1])) ?_
  refine V_regionX Γ Δ [] [0, 1, 2, 3, 4, 5, 13, 17] (evs ?_)
  all_goals (try with_reducible (repeat' (first | apply And.intro | intro _)))
  all_goals (try (first | with_reducible refine wa_id ?_ | exact True.intro | omega))
  refine WA_seq (x := (fcd Tryz.f52 [1, 0])) (y := (fcd Tryz.f52 [1, 1])) ?_
  refine WA_block (c := (fcd Tryz.f52 [1, 0, 0])) ?_
  refine WA_seq (x := (fcd Tryz.f52 [1, 0, 0, 0])) (y := (fcd Tryz.f52 [1, 0, 0, 1])) ?_
  refine V_regionX Γ Δ [] [0, 1, 2, 3, 4, 5, 13, 17] (evs ?_)
  all_goals (try with_reducible (repeat' (first | apply And.intro | intro _)))
  all_goals (try (first | with_reducible refine wa_id ?_ | exact True.intro | exact empty_fn _ | omega))
  refine V_cond (evs ?_)
  refine ⟨fun hc => ?_, fun hc => ?_⟩
  · refine WA_seq (x := (fcd Tryz.f52 [1, 0, 0, 1, 0, 0])) (y := (fcd Tryz.f52 [1, 0, 0, 1, 0, 1])) ?_
    refine V_regionX Γ Δ [] [0, 1, 2, 3, 4, 5, 13, 17] (evs ?_)
    all_goals (try with_reducible (repeat' (first | apply And.intro | intro _)))
    all_goals (try (first | with_reducible refine wa_id ?_ | exact True.intro | omega))
    refine V_ret (evs ?_)
    first | exact fe (r := zR) (fin_j1 hc) | exact fe (fin_j2 ‹_› hc) | exact fe (fin_j3 ‹_› hc) | exact fe (fin_j4 ‹_› hc)
  · refine WA_seq (x := (fcd Tryz.f52 [1, 0, 0, 1, 1, 0])) (y := (fcd Tryz.f52 [1, 0, 0, 1, 1, 1])) ?_
    refine V_regionX Γ Δ [] [0, 1, 2, 3, 4, 5, 13, 17] (evs ?_)
    all_goals (try with_reducible (repeat' (first | apply And.intro | intro _)))
    all_goals (try (first | with_reducible refine wa_id ?_ | exact True.intro | exact empty_fn _ | omega))
    refine V_cond (evs ?_)
    refine ⟨fun hc => ?_, fun hc => ?_⟩
    · refine WA_seq (x := (fcd Tryz.f52 [1, 0, 0, 1, 1, 1, 0, 0])) (y := (fcd Tryz.f52 [1, 0, 0, 1, 1, 1, 0, 1])) ?_
      refine V_regionX Γ Δ [] [0, 1, 2, 3, 4, 5, 13, 17] (evs ?_)
      all_goals (try with_reducible (repeat' (first | apply And.intro | intro _)))
      all_goals (try (first | with_reducible refine wa_id ?_ | exact True.intro | omega))
      refine V_ret (evs ?_)
      first | exact fe (r := zR) (fin_j1 hc) | exact fe (fin_j2 ‹_› hc) | exact fe (fin_j3 ‹_› hc) | exact fe (fin_j4 ‹_› hc)
    · refine WA_seq (x := (fcd Tryz.f52 [1, 0, 0, 1, 1, 1, 1, 0])) (y := (fcd Tryz.f52 [1, 0, 0, 1, 1, 1, 1, 1])) ?_
      refine V_regionX Γ Δ [] [0, 1, 2, 3, 4, 5, 13, 17] (evs ?_)
      all_goals (try with_reducible (repeat' (first | apply And.intro | intro _)))
      all_goals (try (first | with_reducible refine wa_id ?_ | exact True.intro | exact empty_fn _ | omega))
      refine V_cond (evs ?_)
      refine ⟨fun hc => ?_, fun hc => ?_⟩
      · refine WA_seq (x := (fcd Tryz.f52 [1, 0, 0, 1, 1, 1, 1, 1, 0, 0])) (y := (fcd Tryz.f52 [1, 0, 0, 1, 1, 1, 1, 1, 0, 1])) ?_
        refine V_regionX Γ Δ [] [0, 1, 2, 3, 4, 5, 13, 17] (evs ?_)
        all_goals (try with_reducible (repeat' (first | apply And.intro | intro _)))
        all_goals (try (first | with_reducible refine wa_id ?_ | exact True.intro | omega))
        refine V_ret (evs ?_)
        first | exact fe (r := zR) (fin_j1 hc) | exact fe (fin_j2 ‹_› hc) | exact fe (fin_j3 ‹_› hc) | exact fe (fin_j4 ‹_› hc)
      · refine WA_skip ?_
        refine WA_seq (x := (fcd Tryz.f52 [1, 1, 0])) (y := (fcd Tryz.f52 [1, 1, 1])) ?_
        refine V_regionX Γ Δ [] [0, 1, 2, 3, 4, 5, 13, 17] (evs ?_)
        all_goals (try with_reducible (repeat' (first | apply And.intro | intro _)))
        all_goals (try (first | with_reducible refine wa_id ?_ | exact True.intro | exact between_fn _ _ _ _ | omega))
        refine V_ret (evs ?_)
        first | exact fe (r := zR) (fin_j1 hc) | exact fe (fin_j2 ‹_› hc) | exact fe (fin_j3 ‹_› hc) | exact fe (fin_j4 ‹_› hc)

theorem grow_fn (r : Rc) (n : Int) : Eng.Fn Tryz.prog 20 [rcD r, .i n] (.dat (rcD (growR r n))) := by
  refine Eng.Fn.by (fn := Tryz.f20) 34 [.cell 4 34] Tryz.func20 rfl Tryz.ntmps20 rfl (by simp) fun w0 G0 => ?_
  refine WA_seq (x := (fcd Tryz.f20 [0])) (y := (fcd Tryz.f20 [1])) ?_
  refine V_regionX Γ Δ [] [0, 1, 2, 4, 6] (evs ?_)
  all_goals (try with_reducible (repeat' (first | apply And.intro | intro _)))
  all_goals (try (first | with_reducible refine wa_id ?_ | exact True.intro | omega))
  refine WA_seq (x := (fcd Tryz.f20 [1, 0])) (y := (fcd Tryz.f20 [1, 1])) ?_
  refine WA_seq (x := (fcd Tryz.f20 [1, 0, 0])) (y := (fcd Tryz.f20 [1, 0, 1])) ?_
  refine V_regionX Γ Δ [] [0, 1, 2, 4, 6] (evs ?_)
  all_goals (try with_reducible (repeat' (first | apply And.intro | intro _)))
  all_goals (try (first | with_reducible refine wa_id ?_ | exact True.intro | exact empty_fn _ | omega))
  refine V_cond (evs ?_)
  refine ⟨fun hc => ?_, fun hc => ?_⟩
  · refine WA_seq (x := (fcd Tryz.f20 [1, 0, 1, 0, 0])) (y := (fcd Tryz.f20 [1, 0, 1, 0, 1])) ?_
    refine V_regionX Γ Δ [] [0, 1, 2, 4, 6] (evs ?_)
    all_goals (try with_reducible (repeat' (first | apply And.intro | intro _)))
    all_goals (try (first | with_reducible refine wa_id ?_ | exact True.intro | omega))
    refine V_ret (evs ?_)
    first | exact fe (r := zR) (fin_zg hc) | exact fe (fin_gr hc)
  · refine WA_skip ?_
    refine WA_seq (x := (fcd Tryz.f20 [1, 1, 0])) (y := (fcd Tryz.f20 [1, 1, 1])) ?_
    refine V_regionX Γ Δ [] [0, 1, 2, 4, 6] (evs ?_)
    all_goals (try with_reducible (repeat' (first | apply And.intro | intro _)))
    all_goals (try (first | with_reducible refine wa_id ?_ | exact True.intro | omega))
    refine WA_seq (x := (fcd Tryz.f20 [1, 1, 1, 0])) (y := (fcd Tryz.f20 [1, 1, 1, 1])) ?_
    refine V_regionX Γ Δ [] [0, 1, 2, 4, 6] (evs ?_)
    all_goals (try with_reducible (repeat' (first | apply And.intro | intro _)))
    all_goals (try (first | with_reducible refine wa_id ?_ | exact True.intro | exact between_fn _ _ _ _ | omega))
    refine V_ret (evs ?_)
    first | exact fe (r := zR) (fin_zg hc) | exact fe (fin_gr hc)

theorem tile_fn (n : Int) (h1 : -1048576 ≤ n) (h2 : n ≤ 4194304) : Eng.Fn Tryz.prog 33 [.i n] (.dat (.i (tileI n))) := by
  refine Eng.Fn.by (fn := Tryz.f33) 7 [.tmp 2] Tryz.func33 rfl Tryz.ntmps33 rfl (by simp) fun w0 G0 => ?_
  refine WA_seq (x := (fcd Tryz.f33 [0])) (y := (fcd Tryz.f33 [1])) ?_
  refine V_regionX Γ Δ [] [0, 2] (evs ?_)
  all_goals (try with_reducible (repeat' (first | apply And.intro | intro _)))
  all_goals (try (first | with_reducible refine wa_id ?_ | exact True.intro | omega))
  refine WA_seq (x := (fcd Tryz.f33 [1, 0])) (y := (fcd Tryz.f33 [1, 1])) ?_
  refine V_regionX Γ Δ [] [0, 2] (evs ?_)
  all_goals (try with_reducible (repeat' (first | apply And.intro | intro _)))
  all_goals (try (first | with_reducible refine wa_id ?_ | exact True.intro | omega))
  refine V_ret (evs ?_)
  exact fin_t h1 h2

set_option maxRecDepth 100000 in
theorem tiles_fn (r : Rc) : Eng.Fn Tryz.prog 11 [rcD r] (.own 26 2 ((tilesL r).map ptC)) := by
  refine Eng.Fn.by (fn := Tryz.f11) 61 [.tmp 2] Tryz.func11 rfl Tryz.ntmps11 rfl (by simp) fun w0 G0 => ?_
  refine WA_seq (x := (fcd Tryz.f11 [0])) (y := (fcd Tryz.f11 [1])) ?_
  refine V_regionX Γ Δ [] [0, 1, 2, 3, 4, 5, 6, 7, 8, 9, 11, 41, 45, 51] (evs ?_)
  all_goals (try with_reducible (repeat' (first | apply And.intro | intro _)))
  all_goals (try (first | with_reducible refine wa_id ?_ | exact True.intro | omega | exact gri_b2 hn (tly t ‹_›) (tlx t ‹_›) | exact gri_b3 hn (tly t ‹_›) (tlx t ‹_›)))
  refine WA_seq (x := (fcd Tryz.f11 [1, 0])) (y := (fcd Tryz.f11 [1, 1])) ?_
  refine WA_seq (x := (fcd Tryz.f11 [1, 0, 0])) (y := (fcd Tryz.f11 [1, 0, 1])) ?_
  refine V_regionX Γ Δ [] [0, 1, 2, 3, 4, 5, 6, 7, 8, 9, 11, 41, 45, 51] (evs ?_)
  all_goals (try with_reducible (repeat' (first | apply And.intro | intro _)))
  all_goals (try (first | with_reducible refine wa_id ?_ | exact True.intro | exact empty_fn _ | omega | exact gri_b2 hn (tly t ‹_›) (tlx t ‹_›) | exact gri_b3 hn (tly t ‹_›) (tlx t ‹_›)))
  refine V_cond (evs ?_)
  refine ⟨fun hc => ?_, fun hc => ?_⟩
  · refine WA_seq (x := (fcd Tryz.f11 [1, 0, 1, 0, 0])) (y := (fcd Tryz.f11 [1, 0, 1, 0, 1])) ?_
    refine V_regionX Γ Δ [] [0, 1, 2, 3, 4, 5, 6, 7, 8, 9, 11, 41, 45, 51] (evs ?_)
    all_goals (try with_reducible (repeat' (first | apply And.intro | intro _)))
    all_goals (try (first | with_reducible refine wa_id ?_ | exact True.intro | omega | exact gri_b2 hn (tly t ‹_›) (tlx t ‹_›) | exact gri_b3 hn (tly t ‹_›) (tlx t ‹_›)))
    refine V_ret (evs ?_)
    first | exact tl1 hc | exact tl2 ‹_› hc | exact tl3 t ‹_› hm hI hc
  · refine WA_skip ?_
    refine WA_seq (x := (fcd Tryz.f11 [1, 1, 0])) (y := (fcd Tryz.f11 [1, 1, 1])) ?_
    refine V_draw Γ [] [0, 1, 2, 3, 4, 5, 6, 7, 8, 9, 11, 41, 45, 51] mixed (by kernel_rfl) (evs ?_)
    have e := empty_spec.1 hc
    simp (disch := omega) only [w64]
    all_goals (try with_reducible (repeat' (first | apply And.intro | intro _)))
    all_goals (try (first | with_reducible refine wa_id ?_ | exact True.intro | exact tile_fn _ (by omega) (by omega) | omega | exact gri_b2 hn (tly t ‹_›) (tlx t ‹_›) | exact gri_b3 hn (tly t ‹_›) (tlx t ‹_›)))
    refine WA_seq (x := (fcd Tryz.f11 [1, 1, 1, 0])) (y := (fcd Tryz.f11 [1, 1, 1, 1])) ?_
    refine V_draw Γ [] [0, 1, 2, 3, 4, 5, 6, 7, 8, 9, 11, 41, 45, 51] mixed (by kernel_rfl) (evs ?_)
    simp (disch := omega) only [w64]
    all_goals (try with_reducible (repeat' (first | apply And.intro | intro _)))
    all_goals (try (first | with_reducible refine wa_id ?_ | exact True.intro | exact tile_fn _ (by omega) (by omega) | omega | exact gri_b2 hn (tly t ‹_›) (tlx t ‹_›) | exact gri_b3 hn (tly t ‹_›) (tlx t ‹_›)))
    refine WA_seq (x := (fcd Tryz.f11 [1, 1, 1, 1, 0])) (y := (fcd Tryz.f11 [1, 1, 1, 1, 1])) ?_
    refine WA_seq (x := (fcd Tryz.f11 [1, 1, 1, 1, 0, 0])) (y := (fcd Tryz.f11 [1, 1, 1, 1, 0, 1])) ?_
    refine V_regionX Γ Δ [] [0, 1, 2, 3, 4, 5, 6, 7, 8, 9, 11, 41, 45, 51] (evs ?_)
    have t := TB.of hc
    simp only [tw t.x0 t.xx t.x1, tw t.y0 t.yy t.y1, tw2 t]
    all_goals (try with_reducible (repeat' (first | apply And.intro | intro _)))
    all_goals (try (first | with_reducible refine wa_id ?_ | exact True.intro | omega | exact gri_b2 hn (tly t ‹_›) (tlx t ‹_›) | exact gri_b3 hn (tly t ‹_›) (tlx t ‹_›)))
    refine V_cond (evs ?_)
    refine ⟨fun hc => ?_, fun hc => ?_⟩
    · refine WA_seq (x := (fcd Tryz.f11 [1, 1, 1, 1, 0, 1, 0, 0])) (y := (fcd Tryz.f11 [1, 1, 1, 1, 0, 1, 0, 1])) ?_
      refine V_regionX Γ Δ [] [0, 1, 2, 3, 4, 5, 6, 7, 8, 9, 11, 41, 45, 51] (evs ?_)
      all_goals (try with_reducible (repeat' (first | apply And.intro | intro _)))
      all_goals (try (first | with_reducible refine wa_id ?_ | exact True.intro | omega | exact gri_b2 hn (tly t ‹_›) (tlx t ‹_›) | exact gri_b3 hn (tly t ‹_›) (tlx t ‹_›)))
      refine V_ret (evs ?_)
      first | exact tl1 hc | exact tl2 ‹_› hc | exact tl3 t ‹_› hm hI hc
    · refine WA_skip ?_
      refine WA_seq (x := (fcd Tryz.f11 [1, 1, 1, 1, 1, 0])) (y := (fcd Tryz.f11 [1, 1, 1, 1, 1, 1])) ?_
      refine V_regionX Γ Δ [] [0, 1, 2, 3, 4, 5, 6, 7, 8, 9, 11, 41, 45, 51] (evs ?_)
      have hm := hc
      have hn := nm_le t hc
      all_goals (try with_reducible (repeat' (first | apply And.intro | intro _)))
      all_goals (try (first | with_reducible refine wa_id ?_ | exact True.intro | omega | exact gri_b2 hn (tly t ‹_›) (tlx t ‹_›) | exact gri_b3 hn (tly t ‹_›) (tlx t ‹_›)))
      refine WA_seq (x := (fcd Tryz.f11 [1, 1, 1, 1, 1, 1, 0])) (y := (fcd Tryz.f11 [1, 1, 1, 1, 1, 1, 1])) ?_
      refine WA_seq (x := (fcd Tryz.f11 [1, 1, 1, 1, 1, 1, 0, 0])) (y := (fcd Tryz.f11 [1, 1, 1, 1, 1, 1, 0, 1])) ?_
      refine V_regionX Γ Δ [] [0, 1, 2, 3, 4, 5, 6, 7, 8, 9, 11, 41, 45, 51] (evs ?_)
      all_goals (try with_reducible (repeat' (first | apply And.intro | intro _)))
      all_goals (try (first | with_reducible refine wa_id ?_ | exact True.intro | omega | exact gri_b2 hn (tly t ‹_›) (tlx t ‹_›) | exact gri_b3 hn (tly t ‹_›) (tlx t ‹_›)))
      refine WA_block (c := (fcd Tryz.f11 [1, 1, 1, 1, 1, 1, 0, 1, 0])) ?_
      refine V_loop (c := (fcd Tryz.f11 [1, 1, 1, 1, 1, 1, 0, 1, 0, 0])) (α := Nat) [7, 8, 9, 45, 51] [58, 59] (fun j => [(8, .dat (.i (tileI r.y + (j : Int)))), (7, .vw 20000 0 (gr r j).length 2)]) (fun j => [(20000, some (true, .arr 26 2 ((gr r j).map ptC)))]) (fun j => j ≤ NY r) (fun j => NY r - j) 0 [(20000, none)] ?_ (evs ?_) ?_
      · exact Nat.zero_le _
      · (try with_reducible (repeat' (first | apply And.intro | intro _)))
        all_goals (first | exact True.intro | omega | (first | rfl | simp))
      · intro j hI
        refine WA_seq (x := (fcd Tryz.f11 [1, 1, 1, 1, 1, 1, 0, 1, 0, 0, 0])) (y := (fcd Tryz.f11 [1, 1, 1, 1, 1, 1, 0, 1, 0, 0, 1])) ?_
        refine WA_seq (x := (fcd Tryz.f11 [1, 1, 1, 1, 1, 1, 0, 1, 0, 0, 0, 0])) (y := (fcd Tryz.f11 [1, 1, 1, 1, 1, 1, 0, 1, 0, 0, 0, 1])) ?_
        refine V_regionX Γ Δ [] [0, 1, 2, 3, 4, 5, 6, 7, 8, 9, 11, 41, 45, 51] (evs ?_)
        all_goals (try with_reducible (repeat' (first | apply And.intro | intro _)))
        all_goals (try (first | with_reducible refine wa_id ?_ | exact True.intro | omega | exact gri_b2 hn (tly t ‹_›) (tlx t ‹_›) | exact gri_b3 hn (tly t ‹_›) (tlx t ‹_›)))
        refine V_cond (evs ?_)
        refine ⟨fun hc => ?_, fun hc => ?_⟩
        · refine WA_skip ?_
          refine WA_seq (x := (fcd Tryz.f11 [1, 1, 1, 1, 1, 1, 0, 1, 0, 0, 1, 0])) (y := (fcd Tryz.f11 [1, 1, 1, 1, 1, 1, 0, 1, 0, 0, 1, 1])) ?_
          refine WA_block (c := (fcd Tryz.f11 [1, 1, 1, 1, 1, 1, 0, 1, 0, 0, 1, 0, 0])) ?_
          refine WA_seq (x := (fcd Tryz.f11 [1, 1, 1, 1, 1, 1, 0, 1, 0, 0, 1, 0, 0, 0])) (y := (fcd Tryz.f11 [1, 1, 1, 1, 1, 1, 0, 1, 0, 0, 1, 0, 0, 1])) ?_
          refine V_regionX Γ Δ [] [0, 1, 2, 3, 4, 5, 6, 7, 8, 9, 11, 41, 45, 51] (evs ?_)
          all_goals (try with_reducible (repeat' (first | apply And.intro | intro _)))
          all_goals (try (first | with_reducible refine wa_id ?_ | exact True.intro | omega | exact gri_b2 hn (tly t ‹_›) (tlx t ‹_›) | exact gri_b3 hn (tly t ‹_›) (tlx t ‹_›)))
          refine WA_block (c := (fcd Tryz.f11 [1, 1, 1, 1, 1, 1, 0, 1, 0, 0, 1, 0, 0, 1, 0])) ?_
          refine V_loop (c := (fcd Tryz.f11 [1, 1, 1, 1, 1, 1, 0, 1, 0, 0, 1, 0, 0, 1, 0, 0])) (α := Nat) [7, 9, 51] [58, 59, 20000] (fun i => [(9, .dat (.i (tileI r.x + (i : Int)))), (7, .vw 20001 0 (gri r j i).length 2)]) (fun i => [(20001, some (true, .arr 26 2 ((gri r j i).map ptC)))]) (fun i => i ≤ NX r) (fun i => NX r - i) 0 [(20001, some 20000)] ?_ (evs ?_) ?_
          · exact Nat.zero_le _
          · (try with_reducible (repeat' (first | apply And.intro | intro _)))
            all_goals (first | exact True.intro | omega | (first | rfl | exact tk1 | exact tk2 | simp))
          · intro i hJ
            refine WA_seq (x := (fcd Tryz.f11 [1, 1, 1, 1, 1, 1, 0, 1, 0, 0, 1, 0, 0, 1, 0, 0, 0])) (y := (fcd Tryz.f11 [1, 1, 1, 1, 1, 1, 0, 1, 0, 0, 1, 0, 0, 1, 0, 0, 1])) ?_
            refine WA_seq (x := (fcd Tryz.f11 [1, 1, 1, 1, 1, 1, 0, 1, 0, 0, 1, 0, 0, 1, 0, 0, 0, 0])) (y := (fcd Tryz.f11 [1, 1, 1, 1, 1, 1, 0, 1, 0, 0, 1, 0, 0, 1, 0, 0, 0, 1])) ?_
            refine V_regionX Γ Δ [] [0, 1, 2, 3, 4, 5, 6, 7, 8, 9, 11, 41, 45, 51] (evs ?_)
            all_goals (try with_reducible (repeat' (first | apply And.intro | intro _)))
            all_goals (try (first | with_reducible refine wa_id ?_ | exact True.intro | omega | exact gri_b2 hn (tly t ‹_›) (tlx t ‹_›) | exact gri_b3 hn (tly t ‹_›) (tlx t ‹_›)))
            refine V_cond (evs ?_)
            refine ⟨fun hc => ?_, fun hc => ?_⟩
            · refine WA_skip ?_
              refine WA_seq (x := (fcd Tryz.f11 [1, 1, 1, 1, 1, 1, 0, 1, 0, 0, 1, 0, 0, 1, 0, 0, 1, 0])) (y := (fcd Tryz.f11 [1, 1, 1, 1, 1, 1, 0, 1, 0, 0, 1, 0, 0, 1, 0, 0, 1, 1])) ?_
              refine WA_block (c := (fcd Tryz.f11 [1, 1, 1, 1, 1, 1, 0, 1, 0, 0, 1, 0, 0, 1, 0, 0, 1, 0, 0])) ?_
              refine V_regionX Γ Δ [] [0, 1, 2, 3, 4, 5, 6, 7, 8, 9, 11, 41, 45, 51] (evs ?_)
              all_goals (try with_reducible (repeat' (first | apply And.intro | intro _)))
              all_goals (try (first | with_reducible refine wa_id ?_ | exact True.intro | omega | exact gri_b2 hn (tly t ‹_›) (tlx t ‹_›) | exact gri_b3 hn (tly t ‹_›) (tlx t ‹_›)))
              refine V_regionX Γ Δ [] [0, 1, 2, 3, 4, 5, 6, 7, 8, 9, 11, 41, 45, 51] (evs ?_)
              all_goals (try with_reducible (repeat' (first | apply And.intro | intro _)))
              all_goals (try (first | with_reducible refine wa_id ?_ | exact True.intro | omega | exact gri_b2 hn (tly t ‹_›) (tlx t ‹_›) | exact gri_b3 hn (tly t ‹_›) (tlx t ‹_›)))
              refine V_next [(20001, some 59)] (i + 1) (evs ?_) ?_ ?_
              all_goals (try with_reducible (repeat' (first | apply And.intro | intro _)))
              all_goals (first | exact True.intro | omega | (first | exact tj t.x0 (by have := t.x1; omega) | exact tk3 | exact tk4 | (have := tlx t hc; omega)))
            · refine V_exit (evs ?_)
              refine V_regionX Γ Δ [] [0, 1, 2, 3, 4, 5, 6, 7, 8, 9, 11, 41, 45, 51] (evs ?_)
              all_goals (try with_reducible (repeat' (first | apply And.intro | intro _)))
              all_goals (try (first | with_reducible refine wa_id ?_ | exact True.intro | omega | exact gri_b2 hn (tly t ‹_›) (tlx t ‹_›) | exact gri_b3 hn (tly t ‹_›) (tlx t ‹_›)))
              refine V_next [(20000, some 20001)] (j + 1) (evs ?_) ?_ ?_
              all_goals (try with_reducible (repeat' (first | apply And.intro | intro _)))
              all_goals (first | exact True.intro | omega | (first | exact tj t.y0 (by have := t.y1; omega) | exact tk6 t hJ hc | exact tk7 t hJ hc | (have := tly t ‹tileI r.y + (j : Int) ≤ _›; omega)))
        · refine V_exit (evs ?_)
          refine WA_seq (x := (fcd Tryz.f11 [1, 1, 1, 1, 1, 1, 1, 0])) (y := (fcd Tryz.f11 [1, 1, 1, 1, 1, 1, 1, 1])) ?_
          refine V_regionX Γ Δ [] [0, 1, 2, 3, 4, 5, 6, 7, 8, 9, 11, 41, 45, 51] (evs ?_)
          all_goals (try with_reducible (repeat' (first | apply And.intro | intro _)))
          all_goals (try (first | with_reducible refine wa_id ?_ | exact True.intro | omega | exact gri_b2 hn (tly t ‹_›) (tlx t ‹_›) | exact gri_b3 hn (tly t ‹_›) (tlx t ‹_›)))
          refine V_ret (evs ?_)
          first | exact tl1 hc | exact tl2 ‹_› hc | exact tl3 t ‹_› hm hI hc

theorem rvalid_fn (r : Rc) : Eng.Fn Tryz.prog 37 [rcD r] (.dat (.b (validB r))) := by
  refine Eng.Fn.by (fn := Tryz.f37) 45 [.tmp 2] Tryz.func37 rfl Tryz.ntmps37 rfl (by simp) fun w0 G0 => ?_
  refine WA_seq (x := (fcd Tryz.f37 [0])) (y := (fcd Tryz.f37 [1])) ?_
  refine V_regionX Γ Δ [] [0, 1, 2, 20] (evs ?_)
  all_goals (try with_reducible (repeat' (first | apply And.intro | intro _)))
  all_goals (try (first | with_reducible refine wa_id ?_ | exact True.intro | omega))
  refine WA_seq (x := (fcd Tryz.f37 [1, 0])) (y := (fcd Tryz.f37 [1, 1])) ?_
  refine WA_seq (x := (fcd Tryz.f37 [1, 0, 0])) (y := (fcd Tryz.f37 [1, 0, 1])) ?_
  refine V_regionX Γ Δ [] [0, 1, 2, 20] (evs ?_)
  all_goals (try with_reducible (repeat' (first | apply And.intro | intro _)))
  all_goals (try (first | with_reducible refine wa_id ?_ | exact True.intro | omega))
  refine V_cond (evs ?_)
  refine ⟨fun hc => ?_, fun hc => ?_⟩
  · refine WA_seq (x := (fcd Tryz.f37 [1, 0, 1, 0, 0])) (y := (fcd Tryz.f37 [1, 0, 1, 0, 1])) ?_
    refine V_regionX Γ Δ [] [0, 1, 2, 20] (evs ?_)
    all_goals (try with_reducible (repeat' (first | apply And.intro | intro _)))
    all_goals (try (first | with_reducible refine wa_id ?_ | exact True.intro | omega))
    refine V_ret (evs ?_)
    all_goals (first | exact fin_rv1 hc | exact fin_rv2 hc)
  · refine WA_skip ?_
    refine WA_seq (x := (fcd Tryz.f37 [1, 1, 0])) (y := (fcd Tryz.f37 [1, 1, 1])) ?_
    refine V_regionX Γ Δ [] [0, 1, 2, 20] (evs ?_)
    all_goals (try with_reducible (repeat' (first | apply And.intro | intro _)))
    all_goals (try (first | with_reducible refine wa_id ?_ | exact True.intro | omega))
    refine V_ret (evs ?_)
    all_goals (first | exact fin_rv1 hc | exact fin_rv2 hc)

theorem rempty_fn (r : Rc) : Eng.Fn Tryz.prog 38 [rcD r] (.dat (.b (emptyB r))) := by
  refine Eng.Fn.by (fn := Tryz.f38) 16 [.tmp 2] Tryz.func38 rfl Tryz.ntmps38 rfl (by simp) fun w0 G0 => ?_
  refine WA_seq (x := (fcd Tryz.f38 [0])) (y := (fcd Tryz.f38 [1])) ?_
  refine V_regionX Γ Δ [] [0, 1, 2] (evs ?_)
  all_goals (try with_reducible (repeat' (first | apply And.intro | intro _)))
  all_goals (try (first | with_reducible refine wa_id ?_ | exact True.intro | omega))
  refine WA_seq (x := (fcd Tryz.f38 [1, 0])) (y := (fcd Tryz.f38 [1, 1])) ?_
  refine V_regionX Γ Δ [] [0, 1, 2] (evs ?_)
  all_goals (try with_reducible (repeat' (first | apply And.intro | intro _)))
  all_goals (try (first | with_reducible refine wa_id ?_ | exact True.intro | exact rvalid_fn _ | omega))
  refine V_ret (evs ?_)
  rfl

theorem clamp_fn (a b c : Int) : Eng.Fn Tryz.prog 19 [.i a, .i b, .i c] (.dat (.i (clampI a b c))) := by
  refine Eng.Fn.by (fn := Tryz.f19) 12 [.tmp 6] Tryz.func19 rfl Tryz.ntmps19 rfl (by simp) fun w0 G0 => ?_
  refine WA_seq (x := (fcd Tryz.f19 [0])) (y := (fcd Tryz.f19 [1])) ?_
  refine V_regionX Γ Δ [] [0, 1, 2, 6] (evs ?_)
  all_goals (try with_reducible (repeat' (first | apply And.intro | intro _)))
  all_goals (try (first | with_reducible refine wa_id ?_ | exact True.intro | omega))
  refine WA_seq (x := (fcd Tryz.f19 [1, 0])) (y := (fcd Tryz.f19 [1, 1])) ?_
  refine V_regionX Γ Δ [] [0, 1, 2, 6] (evs ?_)
  all_goals (try with_reducible (repeat' (first | apply And.intro | intro _)))
  all_goals (try (first | with_reducible refine wa_id ?_ | exact True.intro | omega))
  refine V_ret (evs ?_)
  rfl

theorem rfloor_fn (a b : Int) (h1 : -9223372036854775808 ≤ a) (h2 : a ≤ 9223372036854775807) : Eng.Fn Tryz.prog 17 [.i a, .i b] (.dat (.i (floorI a b))) := by
  refine Eng.Fn.by (fn := Tryz.f17) 33 [.tmp 4] Tryz.func17 rfl Tryz.ntmps17 rfl (by simp) fun w0 G0 => ?_
  refine WA_seq (x := (fcd Tryz.f17 [0])) (y := (fcd Tryz.f17 [1])) ?_
  refine V_regionX Γ Δ [] [0, 1, 4, 5, 6, 8, 14, 29] (evs ?_)
  all_goals (try with_reducible (repeat' (first | apply And.intro | intro _)))
  all_goals (try (first | with_reducible refine wa_id ?_ | exact True.intro | omega))
  refine WA_seq (x := (fcd Tryz.f17 [1, 0])) (y := (fcd Tryz.f17 [1, 1])) ?_
  refine WA_seq (x := (fcd Tryz.f17 [1, 0, 0])) (y := (fcd Tryz.f17 [1, 0, 1])) ?_
  refine V_regionX Γ Δ [] [0, 1, 4, 5, 6, 8, 14, 29] (evs ?_)
  all_goals (try with_reducible (repeat' (first | apply And.intro | intro _)))
  all_goals (try (first | with_reducible refine wa_id ?_ | exact True.intro | omega))
  refine V_cond (evs ?_)
  refine ⟨fun hc => ?_, fun hc => ?_⟩
  · refine WA_seq (x := (fcd Tryz.f17 [1, 0, 1, 0, 0])) (y := (fcd Tryz.f17 [1, 0, 1, 0, 1])) ?_
    refine V_regionX Γ Δ [] [0, 1, 4, 5, 6, 8, 14, 29] (evs ?_)
    all_goals (try with_reducible (repeat' (first | apply And.intro | intro _)))
    all_goals (try (first | with_reducible refine wa_id ?_ | exact True.intro | omega))
    refine V_ret (evs ?_)
    first | exact fl1 hc | exact fl2 ‹_› hc | exact fl5 h1 h2 ‹_› ‹_› hc | exact fl6 h1 h2 ‹_› ‹_› hc
  · refine WA_skip ?_
    refine WA_seq (x := (fcd Tryz.f17 [1, 1, 0])) (y := (fcd Tryz.f17 [1, 1, 1])) ?_
    refine WA_seq (x := (fcd Tryz.f17 [1, 1, 0, 0])) (y := (fcd Tryz.f17 [1, 1, 0, 1])) ?_
    refine V_regionX Γ Δ [] [0, 1, 4, 5, 6, 8, 14, 29] (evs ?_)
    all_goals (try with_reducible (repeat' (first | apply And.intro | intro _)))
    all_goals (try (first | with_reducible refine wa_id ?_ | exact True.intro | omega))
    refine V_cond (evs ?_)
    refine ⟨fun hc => ?_, fun hc => ?_⟩
    · refine WA_seq (x := (fcd Tryz.f17 [1, 1, 0, 1, 0, 0])) (y := (fcd Tryz.f17 [1, 1, 0, 1, 0, 1])) ?_
      refine V_regionX Γ Δ [] [0, 1, 4, 5, 6, 8, 14, 29] (evs ?_)
      all_goals (try with_reducible (repeat' (first | apply And.intro | intro _)))
      all_goals (try (first | with_reducible refine wa_id ?_ | exact True.intro | omega))
      refine V_ret (evs ?_)
      first | exact fl1 hc | exact fl2 ‹_› hc | exact fl5 h1 h2 ‹_› ‹_› hc | exact fl6 h1 h2 ‹_› ‹_› hc
    · refine WA_skip ?_
      refine WA_seq (x := (fcd Tryz.f17 [1, 1, 1, 0])) (y := (fcd Tryz.f17 [1, 1, 1, 1])) ?_
      refine V_draw Γ [] [0, 1, 4, 5, 6, 8, 14, 29] mixed (by kernel_rfl) (evs ?_)
      all_goals (try with_reducible (repeat' (first | apply And.intro | intro _)))
      all_goals (try (first | with_reducible refine wa_id ?_ | exact True.intro | omega))
      refine WA_seq (x := (fcd Tryz.f17 [1, 1, 1, 1, 0])) (y := (fcd Tryz.f17 [1, 1, 1, 1, 1])) ?_
      refine WA_seq (x := (fcd Tryz.f17 [1, 1, 1, 1, 0, 0])) (y := (fcd Tryz.f17 [1, 1, 1, 1, 0, 1])) ?_
      refine V_regionX Γ Δ [] [0, 1, 4, 5, 6, 8, 14, 29] (evs ?_)
      all_goals (try with_reducible (repeat' (first | apply And.intro | intro _)))
      all_goals (try (first | with_reducible refine wa_id ?_ | exact True.intro | omega))
      refine V_cond (evs ?_)
      refine ⟨fun hc => ?_, fun hc => ?_⟩
      · refine WA_seq (x := (fcd Tryz.f17 [1, 1, 1, 1, 0, 1, 0, 0])) (y := (fcd Tryz.f17 [1, 1, 1, 1, 0, 1, 0, 1])) ?_
        refine V_regionX Γ Δ [] [0, 1, 4, 5, 6, 8, 14, 29] (evs ?_)
        all_goals (try with_reducible (repeat' (first | apply And.intro | intro _)))
        all_goals (try (first | with_reducible refine wa_id ?_ | exact True.intro | omega))
        refine V_ret (evs ?_)
        first | exact fl1 hc | exact fl2 ‹_› hc | exact fl5 h1 h2 ‹_› ‹_› hc | exact fl6 h1 h2 ‹_› ‹_› hc
      · refine WA_skip ?_
        refine WA_seq (x := (fcd Tryz.f17 [1, 1, 1, 1, 1, 0])) (y := (fcd Tryz.f17 [1, 1, 1, 1, 1, 1])) ?_
        refine V_regionX Γ Δ [] [0, 1, 4, 5, 6, 8, 14, 29] (evs ?_)
        all_goals (try with_reducible (repeat' (first | apply And.intro | intro _)))
        all_goals (try (first | with_reducible refine wa_id ?_ | exact True.intro | omega))
        refine V_ret (evs ?_)
        first | exact fl1 hc | exact fl2 ‹_› hc | exact fl5 h1 h2 ‹_› ‹_› hc | exact fl6 h1 h2 ‹_› ‹_› hc

theorem rclamp_fn (a b c : Int) : Eng.Fn Tryz.prog 22 [.i a, .i b, .i c] (.dat (.i (clampI a b c))) := by
  refine Eng.Fn.by (fn := Tryz.f22) 12 [.tmp 6] Tryz.func22 rfl Tryz.ntmps22 rfl (by simp) fun w0 G0 => ?_
  refine WA_seq (x := (fcd Tryz.f22 [0])) (y := (fcd Tryz.f22 [1])) ?_
  refine V_regionX Γ Δ [] [0, 1, 2, 6] (evs ?_)
  all_goals (try with_reducible (repeat' (first | apply And.intro | intro _)))
  all_goals (try (first | with_reducible refine wa_id ?_ | exact True.intro | omega))
  refine WA_seq (x := (fcd Tryz.f22 [1, 0])) (y := (fcd Tryz.f22 [1, 1])) ?_
  refine V_regionX Γ Δ [] [0, 1, 2, 6] (evs ?_)
  all_goals (try with_reducible (repeat' (first | apply And.intro | intro _)))
  all_goals (try (first | with_reducible refine wa_id ?_ | exact True.intro | omega))
  refine V_ret (evs ?_)
  rfl

theorem rspan_fn (r : Rc) (n : Int) : Eng.Fn Tryz.prog 43 [rcD r, .i n] (.tup [.dat (.i (spanS r n)), .dat (.i (spanE r n))]) := by
  refine Eng.Fn.by (fn := Tryz.f43) 37 [.tmp 4, .tmp 5] Tryz.func43 rfl Tryz.ntmps43 rfl (by simp) fun w0 G0 => ?_
  refine WA_seq (x := (fcd Tryz.f43 [0])) (y := (fcd Tryz.f43 [1])) ?_
  refine V_regionX Γ Δ [] [0, 1, 2, 4, 5, 18, 20] (evs ?_)
  all_goals (try with_reducible (repeat' (first | apply And.intro | intro _)))
  all_goals (try (first | with_reducible refine wa_id ?_ | exact True.intro | omega))
  refine WA_seq (x := (fcd Tryz.f43 [1, 0])) (y := (fcd Tryz.f43 [1, 1])) ?_
  refine WA_seq (x := (fcd Tryz.f43 [1, 0, 0])) (y := (fcd Tryz.f43 [1, 0, 1])) ?_
  refine V_regionX Γ Δ [] [0, 1, 2, 4, 5, 18, 20] (evs ?_)
  all_goals (try with_reducible (repeat' (first | apply And.intro | intro _)))
  all_goals (try (first | with_reducible refine wa_id ?_ | exact True.intro | exact rvalid_fn _ | omega))
  refine V_cond (evs ?_)
  refine ⟨fun hc => ?_, fun hc => ?_⟩
  · refine WA_seq (x := (fcd Tryz.f43 [1, 0, 1, 0, 0])) (y := (fcd Tryz.f43 [1, 0, 1, 0, 1])) ?_
    refine V_regionX Γ Δ [] [0, 1, 2, 4, 5, 18, 20] (evs ?_)
    all_goals (try with_reducible (repeat' (first | apply And.intro | intro _)))
    all_goals (try (first | with_reducible refine wa_id ?_ | exact True.intro | omega))
    refine V_ret (evs ?_)
    first | exact fin_sp1 hc | exact fin_sp2 ‹_› hc | exact fin_sp3 ‹_› hc
  · refine WA_skip ?_
    refine WA_seq (x := (fcd Tryz.f43 [1, 1, 0])) (y := (fcd Tryz.f43 [1, 1, 1])) ?_
    refine WA_seq (x := (fcd Tryz.f43 [1, 1, 0, 0])) (y := (fcd Tryz.f43 [1, 1, 0, 1])) ?_
    refine V_regionX Γ Δ [] [0, 1, 2, 4, 5, 18, 20] (evs ?_)
    all_goals (try with_reducible (repeat' (first | apply And.intro | intro _)))
    all_goals (try (first | with_reducible refine wa_id ?_ | exact True.intro | omega))
    refine V_cond (evs ?_)
    refine ⟨fun hc => ?_, fun hc => ?_⟩
    · refine WA_seq (x := (fcd Tryz.f43 [1, 1, 0, 1, 0, 0])) (y := (fcd Tryz.f43 [1, 1, 0, 1, 0, 1])) ?_
      refine V_draw Γ [] [0, 1, 2, 4, 5, 18, 20] mixed (by kernel_rfl) (evs ?_)
      all_goals (try with_reducible (repeat' (first | apply And.intro | intro _)))
      all_goals (try (first | with_reducible refine wa_id ?_ | exact True.intro | omega))
      refine V_ret (evs ?_)
      first | exact fin_sp1 hc | exact fin_sp2 ‹_› hc | exact fin_sp3 ‹_› hc
    · refine WA_skip ?_
      refine WA_seq (x := (fcd Tryz.f43 [1, 1, 1, 0])) (y := (fcd Tryz.f43 [1, 1, 1, 1])) ?_
      refine V_draw Γ [] [0, 1, 2, 4, 5, 18, 20] mixed (by kernel_rfl) (evs ?_)
      all_goals (try with_reducible (repeat' (first | apply And.intro | intro _)))
      all_goals (try (first | with_reducible refine wa_id ?_ | exact True.intro | omega))
      refine V_ret (evs ?_)
      first | exact fin_sp1 hc | exact fin_sp2 ‹_› hc | exact fin_sp3 ‹_› hc

theorem of_fn (x0 x1 y0 y1 : Int) (h1 : -4611686018427387904 ≤ x0) (h2 : x1 ≤ 4611686018427387900) (h3 : -4611686018427387904 ≤ y0) (h4 : y1 ≤ 4611686018427387900) : Eng.Fn Tryz.prog 66 [.i x0, .i x1, .i y0, .i y1] (.dat (rcD (ofR x0 x1 y0 y1))) := by
  refine Eng.Fn.by (fn := Tryz.f66) 29 [.cell 8 34] Tryz.func66 rfl Tryz.ntmps66 rfl (by simp) fun w0 G0 => ?_
  refine WA_seq (x := (fcd Tryz.f66 [0])) (y := (fcd Tryz.f66 [1])) ?_
  refine V_regionX Γ Δ [] [0, 1, 2, 3, 8, 16] (evs ?_)
  all_goals (try with_reducible (repeat' (first | apply And.intro | intro _)))
  all_goals (try (first | with_reducible refine wa_id ?_ | exact True.intro | omega))
  refine WA_seq (x := (fcd Tryz.f66 [1, 0])) (y := (fcd Tryz.f66 [1, 1])) ?_
  refine WA_seq (x := (fcd Tryz.f66 [1, 0, 0])) (y := (fcd Tryz.f66 [1, 0, 1])) ?_
  refine V_regionX Γ Δ [] [0, 1, 2, 3, 8, 16] (evs ?_)
  all_goals (try with_reducible (repeat' (first | apply And.intro | intro _)))
  all_goals (try (first | with_reducible refine wa_id ?_ | exact True.intro | omega))
  refine V_cond (evs ?_)
  refine ⟨fun hc => ?_, fun hc => ?_⟩
  · refine WA_seq (x := (fcd Tryz.f66 [1, 0, 1, 0, 0])) (y := (fcd Tryz.f66 [1, 0, 1, 0, 1])) ?_
    refine V_regionX Γ Δ [] [0, 1, 2, 3, 8, 16] (evs ?_)
    all_goals (try with_reducible (repeat' (first | apply And.intro | intro _)))
    all_goals (try (first | with_reducible refine wa_id ?_ | exact True.intro | omega))
    refine V_ret (evs ?_)
    first | exact fe (r := zR) (fin_o1 hc) | exact fe (fin_o2 h1 h2 h3 h4 hc)
  · refine WA_skip ?_
    refine WA_seq (x := (fcd Tryz.f66 [1, 1, 0])) (y := (fcd Tryz.f66 [1, 1, 1])) ?_
    refine V_regionX Γ Δ [] [0, 1, 2, 3, 8, 16] (evs ?_)
    all_goals (try with_reducible (repeat' (first | apply And.intro | intro _)))
    all_goals (try (first | with_reducible refine wa_id ?_ | exact True.intro | omega))
    refine V_ret (evs ?_)
    first | exact fe (r := zR) (fin_o1 hc) | exact fe (fin_o2 h1 h2 h3 h4 hc)

theorem limit_fn (n : Int) : Eng.Fn Tryz.prog 44 [.i n] (.dat (.i (lim3 n))) := by
  refine Eng.Fn.by (fn := Tryz.f44) 6 [.tmp 2] Tryz.func44 rfl Tryz.ntmps44 rfl (by simp) fun w0 G0 => ?_
  refine WA_seq (x := (fcd Tryz.f44 [0])) (y := (fcd Tryz.f44 [1])) ?_
  refine V_regionX Γ Δ [] [0, 2] (evs ?_)
  all_goals (try with_reducible (repeat' (first | apply And.intro | intro _)))
  all_goals (try (first | with_reducible refine wa_id ?_ | exact True.intro | omega))
  refine WA_seq (x := (fcd Tryz.f44 [1, 0])) (y := (fcd Tryz.f44 [1, 1])) ?_
  refine V_regionX Γ Δ [] [0, 2] (evs ?_)
  all_goals (try with_reducible (repeat' (first | apply And.intro | intro _)))
  all_goals (try (first | with_reducible refine wa_id ?_ | exact True.intro | omega))
  refine V_ret (evs ?_)
  rfl

theorem world_fn (x0 x1 y0 y1 : Int) : Eng.Fn Tryz.prog 45 [.i x0, .i x1, .i y0, .i y1] (.dat (rcD (worldR x0 x1 y0 y1))) := by
  refine Eng.Fn.by (fn := Tryz.f45) 18 [.cell 8 34] Tryz.func45 rfl Tryz.ntmps45 rfl (by simp) fun w0 G0 => ?_
  refine WA_seq (x := (fcd Tryz.f45 [0])) (y := (fcd Tryz.f45 [1])) ?_
  refine V_regionX Γ Δ [] [0, 1, 2, 3, 8] (evs ?_)
  all_goals (try with_reducible (repeat' (first | apply And.intro | intro _)))
  all_goals (try (first | with_reducible refine wa_id ?_ | exact True.intro | omega))
  refine WA_seq (x := (fcd Tryz.f45 [1, 0])) (y := (fcd Tryz.f45 [1, 1])) ?_
  refine V_regionX Γ Δ [] [0, 1, 2, 3, 8] (evs ?_)
  all_goals (try with_reducible (repeat' (first | apply And.intro | intro _)))
  all_goals (try (first | with_reducible refine wa_id ?_ | exact True.intro | exact of_fn _ _ _ _ (by omega) (by omega) (by omega) (by omega) | omega))
  refine V_ret (evs ?_)
  exact fe rfl

theorem rgrow_fn (r : Rc) (n : Int) : Eng.Fn Tryz.prog 23 [rcD r, .i n] (.dat (rcD (growR r n))) := by
  refine Eng.Fn.by (fn := Tryz.f23) 38 [.cell 4 34] Tryz.func23 rfl Tryz.ntmps23 rfl (by simp) fun w0 G0 => ?_
  refine WA_seq (x := (fcd Tryz.f23 [0])) (y := (fcd Tryz.f23 [1])) ?_
  refine V_regionX Γ Δ [] [0, 1, 2, 4, 5, 6, 7, 8, 9, 11] (evs ?_)
  all_goals (try with_reducible (repeat' (first | apply And.intro | intro _)))
  all_goals (try (first | with_reducible refine wa_id ?_ | exact True.intro | omega))
  refine WA_seq (x := (fcd Tryz.f23 [1, 0])) (y := (fcd Tryz.f23 [1, 1])) ?_
  refine WA_seq (x := (fcd Tryz.f23 [1, 0, 0])) (y := (fcd Tryz.f23 [1, 0, 1])) ?_
  refine V_regionX Γ Δ [] [0, 1, 2, 4, 5, 6, 7, 8, 9, 11] (evs ?_)
  all_goals (try with_reducible (repeat' (first | apply And.intro | intro _)))
  all_goals (try (first | with_reducible refine wa_id ?_ | exact True.intro | exact rempty_fn _ | omega))
  refine V_cond (evs ?_)
  refine ⟨fun hc => ?_, fun hc => ?_⟩
  · refine WA_seq (x := (fcd Tryz.f23 [1, 0, 1, 0, 0])) (y := (fcd Tryz.f23 [1, 0, 1, 0, 1])) ?_
    refine V_regionX Γ Δ [] [0, 1, 2, 4, 5, 6, 7, 8, 9, 11] (evs ?_)
    all_goals (try with_reducible (repeat' (first | apply And.intro | intro _)))
    all_goals (try (first | with_reducible refine wa_id ?_ | exact True.intro | omega))
    refine V_ret (evs ?_)
    first | exact fe (r := zR) (fin_zg hc) | exact fe (fin_rgr hc)
  · refine WA_skip ?_
    refine WA_seq (x := (fcd Tryz.f23 [1, 1, 0])) (y := (fcd Tryz.f23 [1, 1, 1])) ?_
    refine V_regionX Γ Δ [] [0, 1, 2, 4, 5, 6, 7, 8, 9, 11] (evs ?_)
    all_goals (try with_reducible (repeat' (first | apply And.intro | intro _)))
    all_goals (try (first | with_reducible refine wa_id ?_ | exact True.intro | exact rspan_fn _ _ | omega))
    refine WA_seq (x := (fcd Tryz.f23 [1, 1, 1, 0])) (y := (fcd Tryz.f23 [1, 1, 1, 1])) ?_
    refine V_regionX Γ Δ [] [0, 1, 2, 4, 5, 6, 7, 8, 9, 11] (evs ?_)
    all_goals (try with_reducible (repeat' (first | apply And.intro | intro _)))
    all_goals (try (first | with_reducible refine wa_id ?_ | exact True.intro | exact rspan_fn _ _ | omega))
    refine WA_seq (x := (fcd Tryz.f23 [1, 1, 1, 1, 0])) (y := (fcd Tryz.f23 [1, 1, 1, 1, 1])) ?_
    refine V_regionX Γ Δ [] [0, 1, 2, 4, 5, 6, 7, 8, 9, 11] (evs ?_)
    all_goals (try with_reducible (repeat' (first | apply And.intro | intro _)))
    all_goals (try (first | with_reducible refine wa_id ?_ | exact True.intro | exact limit_fn _ | omega))
    refine WA_seq (x := (fcd Tryz.f23 [1, 1, 1, 1, 1, 0])) (y := (fcd Tryz.f23 [1, 1, 1, 1, 1, 1])) ?_
    refine V_regionX Γ Δ [] [0, 1, 2, 4, 5, 6, 7, 8, 9, 11] (evs ?_)
    all_goals (try with_reducible (repeat' (first | apply And.intro | intro _)))
    all_goals (try (first | with_reducible refine wa_id ?_ | exact True.intro | exact world_fn _ _ _ _ | omega))
    refine V_ret (evs ?_)
    first | exact fe (r := zR) (fin_zg hc) | exact fe (fin_rgr hc)

end Go.S03

