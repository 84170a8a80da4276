import Derived.Test.YtnbeigcjhpldmaaF03
set_option linter.unusedSimpArgs false
set_option linter.unusedVariables false
set_option linter.unusedSimpArgs false
set_option linter.unusedVariables false
namespace Go.S03
open Go.RowKit Go.Proofs Go.Eng Go.Rect
/-- imageeditor/rect.span -/
theorem span_fn (x w : Int) : Eng.Fn Try.prog 68 [.i x, .i w] (.dat (.b (spanB x w))) := by
  refine Eng.Fn.by (fn := Try.f68) 21 [.tmp 4] Try.func68 rfl Try.ntmps68 rfl (by simp) fun w0 G0 => ?_
  refine WA_seq (x := (fcd Try.f68 [0])) (y := (fcd Try.f68 [1])) ?_
  refine V_regionX Γ Δ [] [0, 1, 4] (evs ?_)
  all_goals (try with_reducible (repeat' (first | apply And.intro | intro _)))
  all_goals (try (first | with_reducible refine wa_id ?_ | exact True.intro | omega))
  refine WA_seq (x := (fcd Try.f68 [1, 0])) (y := (fcd Try.f68 [1, 1])) ?_
  refine V_regionX Γ Δ [] [0, 1, 4] (evs ?_)
  all_goals (try with_reducible (repeat' (first | apply And.intro | intro _)))
  all_goals (try (first | with_reducible refine wa_id ?_ | exact True.intro | omega))
  refine V_ret (evs ?_)
  rw [Bool.eq_iff_iff]; simp only [spanB, Bool.and_eq_true, decide_eq_true_eq]
  constructor
  all_goals (intro ⟨⟨⟨h1, h2⟩, h3⟩, h4⟩; rw [w64 (by omega) (by omega)] at *; exact ⟨⟨⟨h1, h2⟩, h3⟩, h4⟩)

/-- imageeditor/rect.Valid -/
theorem valid_fn (r : Rc) : Eng.Fn Try.prog 55 [rcD r] (.dat (.b (validB r))) := by
  refine Eng.Fn.by (fn := Try.f55) 15 [.tmp 2] Try.func55 rfl Try.ntmps55 rfl (by simp) fun w0 G0 => ?_
  refine WA_seq (x := (fcd Try.f55 [0])) (y := (fcd Try.f55 [1])) ?_
  refine V_regionX Γ Δ [] [0, 1, 2] (evs ?_)
  all_goals (try with_reducible (repeat' (first | apply And.intro | intro _)))
  all_goals (try (first | with_reducible refine wa_id ?_ | exact True.intro | omega))
  refine WA_seq (x := (fcd Try.f55 [1, 0])) (y := (fcd Try.f55 [1, 1])) ?_
  refine V_regionX Γ Δ [] [0, 1, 2] (evs ?_)
  all_goals (try with_reducible (repeat' (first | apply And.intro | intro _)))
  all_goals (try (first | with_reducible refine wa_id ?_ | exact True.intro | exact span_fn _ _ | omega))
  refine V_ret (evs ?_)
  rfl

/-- imageeditor/rect.Empty -/
theorem empty_fn (r : Rc) : Eng.Fn Try.prog 34 [rcD r] (.dat (.b (emptyB r))) := by
  refine Eng.Fn.by (fn := Try.f34) 16 [.tmp 2] Try.func34 rfl Try.ntmps34 rfl (by simp) fun w0 G0 => ?_
  refine WA_seq (x := (fcd Try.f34 [0])) (y := (fcd Try.f34 [1])) ?_
  refine V_regionX Γ Δ [] [0, 1, 2] (evs ?_)
  all_goals (try with_reducible (repeat' (first | apply And.intro | intro _)))
  all_goals (try (first | with_reducible refine wa_id ?_ | exact True.intro | omega))
  refine WA_seq (x := (fcd Try.f34 [1, 0])) (y := (fcd Try.f34 [1, 1])) ?_
  refine V_regionX Γ Δ [] [0, 1, 2] (evs ?_)
  all_goals (try with_reducible (repeat' (first | apply And.intro | intro _)))
  all_goals (try (first | with_reducible refine wa_id ?_ | exact True.intro | exact valid_fn _ | omega))
  refine V_ret (evs ?_)
  rfl

/-- imageeditor/rect.Has -/
theorem has_fn (r : Rc) (p : Pt) : Eng.Fn Try.prog 31 [rcD r, ptD p] (.dat (.b (hasB r p))) := by
  refine Eng.Fn.by (fn := Try.f31) 41 [.tmp 4] Try.func31 rfl Try.ntmps31 rfl (by simp) fun w0 G0 => ?_
  refine WA_seq (x := (fcd Try.f31 [0])) (y := (fcd Try.f31 [1])) ?_
  refine V_regionX Γ Δ [] [0, 1, 2, 3, 4] (evs ?_)
  all_goals (try with_reducible (repeat' (first | apply And.intro | intro _)))
  all_goals (try (first | with_reducible refine wa_id ?_ | exact True.intro | omega))
  refine WA_seq (x := (fcd Try.f31 [1, 0])) (y := (fcd Try.f31 [1, 1])) ?_
  refine V_regionX Γ Δ [] [0, 1, 2, 3, 4] (evs ?_)
  all_goals (try with_reducible (repeat' (first | apply And.intro | intro _)))
  all_goals (try (first | with_reducible refine wa_id ?_ | exact True.intro | exact valid_fn _ | omega))
  refine V_ret (evs ?_)
  exact fin_has

/-- imageeditor/rect.Area -/
theorem area_fn (r : Rc) : Eng.Fn Try.prog 46 [rcD r] (.dat (.i (areaI r))) := by
  refine Eng.Fn.by (fn := Try.f46) 10 [.tmp 2] Try.func46 rfl Try.ntmps46 rfl (by simp) fun w0 G0 => ?_
  refine WA_seq (x := (fcd Try.f46 [0])) (y := (fcd Try.f46 [1])) ?_
  refine V_regionX Γ Δ [] [0, 1, 2, 4] (evs ?_)
  all_goals (try with_reducible (repeat' (first | apply And.intro | intro _)))
  all_goals (try (first | with_reducible refine wa_id ?_ | exact True.intro | omega))
  refine WA_seq (x := (fcd Try.f46 [1, 0])) (y := (fcd Try.f46 [1, 1])) ?_
  refine WA_seq (x := (fcd Try.f46 [1, 0, 0])) (y := (fcd Try.f46 [1, 0, 1])) ?_
  refine V_regionX Γ Δ [] [0, 1, 2, 4] (evs ?_)
  all_goals (try with_reducible (repeat' (first | apply And.intro | intro _)))
  all_goals (try (first | with_reducible refine wa_id ?_ | exact True.intro | exact empty_fn _ | omega))
  refine V_cond (evs ?_)
  refine ⟨fun hc => ?_, fun hc => ?_⟩
  · refine WA_seq (x := (fcd Try.f46 [1, 0, 1, 0, 0])) (y := (fcd Try.f46 [1, 0, 1, 0, 1])) ?_
    refine V_regionX Γ Δ [] [0, 1, 2, 4] (evs ?_)
    all_goals (try with_reducible (repeat' (first | apply And.intro | intro _)))
    all_goals (try (first | with_reducible refine wa_id ?_ | exact True.intro | omega))
    refine V_ret (evs ?_)
    first | exact fin_a1 hc | exact fin_a2 hc
  · refine WA_skip ?_
    refine WA_seq (x := (fcd Try.f46 [1, 1, 0])) (y := (fcd Try.f46 [1, 1, 1])) ?_
    refine V_regionX Γ Δ [] [0, 1, 2, 4] (evs ?_)
    all_goals (try with_reducible (repeat' (first | apply And.intro | intro _)))
    all_goals (try (first | with_reducible refine wa_id ?_ | exact True.intro | omega))
    refine V_ret (evs ?_)
    first | exact fin_a1 hc | exact fin_a2 hc

/-- imageeditor/rect.between -/
theorem between_fn (x0 y0 x1 y1 : Int) : Eng.Fn Try.prog 63 [.i x0, .i y0, .i x1, .i y1] (.dat (rcD (betweenR x0 y0 x1 y1))) := by
  refine Eng.Fn.by (fn := Try.f63) 35 [.cell 8 33] Try.func63 rfl Try.ntmps63 rfl (by simp) fun w0 G0 => ?_
  refine WA_seq (x := (fcd Try.f63 [0])) (y := (fcd Try.f63 [1])) ?_
  refine V_regionX Γ Δ [] [0, 1, 2, 3, 8, 24] (evs ?_)
  all_goals (try with_reducible (repeat' (first | apply And.intro | intro _)))
  all_goals (try (first | with_reducible refine wa_id ?_ | exact True.intro | omega))
  refine WA_seq (x := (fcd Try.f63 [1, 0])) (y := (fcd Try.f63 [1, 1])) ?_
  refine V_regionX Γ Δ [] [0, 1, 2, 3, 8, 24] (evs ?_)
  all_goals (try with_reducible (repeat' (first | apply And.intro | intro _)))
  all_goals (try (first | with_reducible refine wa_id ?_ | exact True.intro | omega))
  refine WA_seq (x := (fcd Try.f63 [1, 1, 0])) (y := (fcd Try.f63 [1, 1, 1])) ?_
  refine V_regionX Γ Δ [] [0, 1, 2, 3, 8, 24] (evs ?_)
  all_goals (try with_reducible (repeat' (first | apply And.intro | intro _)))
  all_goals (try (first | with_reducible refine wa_id ?_ | exact True.intro | omega))
  refine WA_seq (x := (fcd Try.f63 [1, 1, 1, 0])) (y := (fcd Try.f63 [1, 1, 1, 1])) ?_
  refine WA_seq (x := (fcd Try.f63 [1, 1, 1, 0, 0])) (y := (fcd Try.f63 [1, 1, 1, 0, 1])) ?_
  refine V_regionX Γ Δ [] [0, 1, 2, 3, 8, 24] (evs ?_)
  all_goals (try with_reducible (repeat' (first | apply And.intro | intro _)))
  all_goals (try (first | with_reducible refine wa_id ?_ | exact True.intro | omega))
  refine V_cond (evs ?_)
  refine ⟨fun hc => ?_, fun hc => ?_⟩
  · refine WA_seq (x := (fcd Try.f63 [1, 1, 1, 0, 1, 0, 0])) (y := (fcd Try.f63 [1, 1, 1, 0, 1, 0, 1])) ?_
    refine V_regionX Γ Δ [] [0, 1, 2, 3, 8, 24] (evs ?_)
    all_goals (try with_reducible (repeat' (first | apply And.intro | intro _)))
    all_goals (try (first | with_reducible refine wa_id ?_ | exact True.intro | omega))
    refine V_ret (evs ?_)
    first | exact fe (r := zR) (fin_b1 hc) | exact fe (fin_b2 hc)
  · refine WA_skip ?_
    refine WA_seq (x := (fcd Try.f63 [1, 1, 1, 1, 0])) (y := (fcd Try.f63 [1, 1, 1, 1, 1])) ?_
    refine V_regionX Γ Δ [] [0, 1, 2, 3, 8, 24] (evs ?_)
    all_goals (try with_reducible (repeat' (first | apply And.intro | intro _)))
    all_goals (try (first | with_reducible refine wa_id ?_ | exact True.intro | omega))
    refine V_ret (evs ?_)
    first | exact fe (r := zR) (fin_b1 hc) | exact fe (fin_b2 hc)

set_option maxRecDepth 100000 in
/-- imageeditor/rect.Join -/
theorem join_fn (a b : Rc) : Eng.Fn Try.prog 47 [rcD a, rcD b] (.dat (rcD (joinR a b))) := by
  refine Eng.Fn.by (fn := Try.f47) 54 [.cell 4 33] Try.func47 rfl Try.ntmps47 rfl (by simp) fun w0 G0 => ?_
  refine WA_seq (x := (fcd Try.f47 [0])) (y := (fcd Try.f47 [1])) ?_
  refine V_regionX Γ Δ [] [0, 1, 2, 3, 4, 5, 13, 17] (evs ?_)
  all_goals (try with_reducible (repeat' (first | apply And.intro | intro _)))
  all_goals (try (first | with_reducible refine wa_id ?_ | exact True.intro | omega))
  refine WA_seq (x := (fcd Try.f47 [1, 0])) (y := (fcd Try.f47 [1, 1])) ?_
  refine WA_block (c := (fcd Try.f47 [1, 0, 0])) ?_
  refine WA_seq (x := (fcd Try.f47 [1, 0, 0, 0])) (y := (fcd Try.f47 [1, 0, 0, 1])) ?_
  refine V_regionX Γ Δ [] [0, 1, 2, 3, 4, 5, 13, 17] (evs ?_)
  all_goals (try with_reducible (repeat' (first | apply And.intro | intro _)))
  all_goals (try (first | with_reducible refine wa_id ?_ | exact True.intro | exact empty_fn _ | omega))
  refine V_cond (evs ?_)
  refine ⟨fun hc => ?_, fun hc => ?_⟩
  · refine WA_seq (x := (fcd Try.f47 [1, 0, 0, 1, 0, 0])) (y := (fcd Try.f47 [1, 0, 0, 1, 0, 1])) ?_
    refine V_regionX Γ Δ [] [0, 1, 2, 3, 4, 5, 13, 17] (evs ?_)
    all_goals (try with_reducible (repeat' (first | apply And.intro | intro _)))
    all_goals (try (first | with_reducible refine wa_id ?_ | exact True.intro | omega))
    refine V_ret (evs ?_)
    first | exact fe (r := zR) (fin_j1 hc) | exact fe (fin_j2 ‹_› hc) | exact fe (fin_j3 ‹_› hc) | exact fe (fin_j4 ‹_› hc)
  · refine WA_seq (x := (fcd Try.f47 [1, 0, 0, 1, 1, 0])) (y := (fcd Try.f47 [1, 0, 0, 1, 1, 1])) ?_
    refine V_regionX Γ Δ [] [0, 1, 2, 3, 4, 5, 13, 17] (evs ?_)
    all_goals (try with_reducible (repeat' (first | apply And.intro | intro _)))
    all_goals (try (first | with_reducible refine wa_id ?_ | exact True.intro | exact empty_fn _ | omega))
    refine V_cond (evs ?_)
    refine ⟨fun hc => ?_, fun hc => ?_⟩
    · refine WA_seq (x := (fcd Try.f47 [1, 0, 0, 1, 1, 1, 0, 0])) (y := (fcd Try.f47 [1, 0, 0, 1, 1, 1, 0, 1])) ?_
      refine V_regionX Γ Δ [] [0, 1, 2, 3, 4, 5, 13, 17] (evs ?_)
      all_goals (try with_reducible (repeat' (first | apply And.intro | intro _)))
      all_goals (try (first | with_reducible refine wa_id ?_ | exact True.intro | omega))
      refine V_ret (evs ?_)
      first | exact fe (r := zR) (fin_j1 hc) | exact fe (fin_j2 ‹_› hc) | exact fe (fin_j3 ‹_› hc) | exact fe (fin_j4 ‹_› hc)
    · refine WA_seq (x := (fcd Try.f47 [1, 0, 0, 1, 1, 1, 1, 0])) (y := (fcd Try.f47 [1, 0, 0, 1, 1, 1, 1, 1])) ?_
      refine V_regionX Γ Δ [] [0, 1, 2, 3, 4, 5, 13, 17] (evs ?_)
      all_goals (try with_reducible (repeat' (first | apply And.intro | intro _)))
      all_goals (try (first | with_reducible refine wa_id ?_ | exact True.intro | exact empty_fn _ | omega))
      refine V_cond (evs ?_)
      refine ⟨fun hc => ?_, fun hc => ?_⟩
      · refine WA_seq (x := (fcd Try.f47 [1, 0, 0, 1, 1, 1, 1, 1, 0, 0])) (y := (fcd Try.f47 [1, 0, 0, 1, 1, 1, 1, 1, 0, 1])) ?_
        refine V_regionX Γ Δ [] [0, 1, 2, 3, 4, 5, 13, 17] (evs ?_)
        all_goals (try with_reducible (repeat' (first | apply And.intro | intro _)))
        all_goals (try (first | with_reducible refine wa_id ?_ | exact True.intro | omega))
        refine V_ret (evs ?_)
        first | exact fe (r := zR) (fin_j1 hc) | exact fe (fin_j2 ‹_› hc) | exact fe (fin_j3 ‹_› hc) | exact fe (fin_j4 ‹_› hc)
      · refine WA_skip ?_
        refine WA_seq (x := (fcd Try.f47 [1, 1, 0])) (y := (fcd Try.f47 [1, 1, 1])) ?_
        refine V_regionX Γ Δ [] [0, 1, 2, 3, 4, 5, 13, 17] (evs ?_)
        all_goals (try with_reducible (repeat' (first | apply And.intro | intro _)))
        all_goals (try (first | with_reducible refine wa_id ?_ | exact True.intro | exact between_fn _ _ _ _ | omega))
        refine V_ret (evs ?_)
        first | exact fe (r := zR) (fin_j1 hc) | exact fe (fin_j2 ‹_› hc) | exact fe (fin_j3 ‹_› hc) | exact fe (fin_j4 ‹_› hc)

/-- imageeditor/rect.Grow -/
theorem grow_fn (r : Rc) (n : Int) : Eng.Fn Try.prog 49 [rcD r, .i n] (.dat (rcD (growR r n))) := by
  refine Eng.Fn.by (fn := Try.f49) 34 [.cell 4 33] Try.func49 rfl Try.ntmps49 rfl (by simp) fun w0 G0 => ?_
  refine WA_seq (x := (fcd Try.f49 [0])) (y := (fcd Try.f49 [1])) ?_
  refine V_regionX Γ Δ [] [0, 1, 2, 4, 6] (evs ?_)
  all_goals (try with_reducible (repeat' (first | apply And.intro | intro _)))
  all_goals (try (first | with_reducible refine wa_id ?_ | exact True.intro | omega))
  refine WA_seq (x := (fcd Try.f49 [1, 0])) (y := (fcd Try.f49 [1, 1])) ?_
  refine WA_seq (x := (fcd Try.f49 [1, 0, 0])) (y := (fcd Try.f49 [1, 0, 1])) ?_
  refine V_regionX Γ Δ [] [0, 1, 2, 4, 6] (evs ?_)
  all_goals (try with_reducible (repeat' (first | apply And.intro | intro _)))
  all_goals (try (first | with_reducible refine wa_id ?_ | exact True.intro | exact empty_fn _ | omega))
  refine V_cond (evs ?_)
  refine ⟨fun hc => ?_, fun hc => ?_⟩
  · refine WA_seq (x := (fcd Try.f49 [1, 0, 1, 0, 0])) (y := (fcd Try.f49 [1, 0, 1, 0, 1])) ?_
    refine V_regionX Γ Δ [] [0, 1, 2, 4, 6] (evs ?_)
    all_goals (try with_reducible (repeat' (first | apply And.intro | intro _)))
    all_goals (try (first | with_reducible refine wa_id ?_ | exact True.intro | omega))
    refine V_ret (evs ?_)
    first | exact fe (r := zR) (fin_zg hc) | exact fe (fin_gr hc)
  · refine WA_skip ?_
    refine WA_seq (x := (fcd Try.f49 [1, 1, 0])) (y := (fcd Try.f49 [1, 1, 1])) ?_
    refine V_regionX Γ Δ [] [0, 1, 2, 4, 6] (evs ?_)
    all_goals (try with_reducible (repeat' (first | apply And.intro | intro _)))
    all_goals (try (first | with_reducible refine wa_id ?_ | exact True.intro | omega))
    refine WA_seq (x := (fcd Try.f49 [1, 1, 1, 0])) (y := (fcd Try.f49 [1, 1, 1, 1])) ?_
    refine V_regionX Γ Δ [] [0, 1, 2, 4, 6] (evs ?_)
    all_goals (try with_reducible (repeat' (first | apply And.intro | intro _)))
    all_goals (try (first | with_reducible refine wa_id ?_ | exact True.intro | exact between_fn _ _ _ _ | omega))
    refine V_ret (evs ?_)
    first | exact fe (r := zR) (fin_zg hc) | exact fe (fin_gr hc)

/-- imageeditor/rect.tile -/
theorem tile_fn (n : Int) (h1 : -1048576 ≤ n) (h2 : n ≤ 4194304) : Eng.Fn Try.prog 64 [.i n] (.dat (.i (tileI n))) := by
  refine Eng.Fn.by (fn := Try.f64) 7 [.tmp 2] Try.func64 rfl Try.ntmps64 rfl (by simp) fun w0 G0 => ?_
  refine WA_seq (x := (fcd Try.f64 [0])) (y := (fcd Try.f64 [1])) ?_
  refine V_regionX Γ Δ [] [0, 2] (evs ?_)
  all_goals (try with_reducible (repeat' (first | apply And.intro | intro _)))
  all_goals (try (first | with_reducible refine wa_id ?_ | exact True.intro | omega))
  refine WA_seq (x := (fcd Try.f64 [1, 0])) (y := (fcd Try.f64 [1, 1])) ?_
  refine V_regionX Γ Δ [] [0, 2] (evs ?_)
  all_goals (try with_reducible (repeat' (first | apply And.intro | intro _)))
  all_goals (try (first | with_reducible refine wa_id ?_ | exact True.intro | omega))
  refine V_ret (evs ?_)
  exact fin_t h1 h2

/-- imageeditor/rect.OfTile -/
theorem tileR_fn (p : Pt) : Eng.Fn Try.prog 30 [ptD p] (.dat (rcD (ofTileR p))) := by
  refine Eng.Fn.by (fn := Try.f30) 29 [.cell 2 33] Try.func30 rfl Try.ntmps30 rfl (by simp) fun w0 G0 => ?_
  refine WA_seq (x := (fcd Try.f30 [0])) (y := (fcd Try.f30 [1])) ?_
  refine V_regionX Γ Δ [] [0, 1, 2, 20] (evs ?_)
  all_goals (try with_reducible (repeat' (first | apply And.intro | intro _)))
  all_goals (try (first | with_reducible refine wa_id ?_ | exact True.intro | omega))
  refine WA_seq (x := (fcd Try.f30 [1, 0])) (y := (fcd Try.f30 [1, 1])) ?_
  refine WA_seq (x := (fcd Try.f30 [1, 0, 0])) (y := (fcd Try.f30 [1, 0, 1])) ?_
  refine V_regionX Γ Δ [] [0, 1, 2, 20] (evs ?_)
  all_goals (try with_reducible (repeat' (first | apply And.intro | intro _)))
  all_goals (try (first | with_reducible refine wa_id ?_ | exact True.intro | omega))
  refine V_cond (evs ?_)
  refine ⟨fun hc => ?_, fun hc => ?_⟩
  · refine WA_seq (x := (fcd Try.f30 [1, 0, 1, 0, 0])) (y := (fcd Try.f30 [1, 0, 1, 0, 1])) ?_
    refine V_regionX Γ Δ [] [0, 1, 2, 20] (evs ?_)
    all_goals (try with_reducible (repeat' (first | apply And.intro | intro _)))
    all_goals (try (first | with_reducible refine wa_id ?_ | exact True.intro | omega))
    refine V_ret (evs ?_)
    try simp only [wm] at hc
    first | exact fe (r := zR) (fin_ot1 hc) | exact fe (fin_ot2 hc)
  · refine WA_skip ?_
    refine WA_seq (x := (fcd Try.f30 [1, 1, 0])) (y := (fcd Try.f30 [1, 1, 1])) ?_
    refine V_regionX Γ Δ [] [0, 1, 2, 20] (evs ?_)
    all_goals (try with_reducible (repeat' (first | apply And.intro | intro _)))
    all_goals (try (first | with_reducible refine wa_id ?_ | exact True.intro | omega))
    refine V_ret (evs ?_)
    try simp only [wm] at hc
    first | exact fe (r := zR) (fin_ot1 hc) | exact fe (fin_ot2 hc)

set_option maxRecDepth 100000 in
/-- imageeditor/rect.Tiles -/
theorem tiles_fn (r : Rc) : Eng.Fn Try.prog 50 [rcD r] (.own 29 2 ((tilesL r).map ptC)) := by
  refine Eng.Fn.by (fn := Try.f50) 61 [.tmp 2] Try.func50 rfl Try.ntmps50 rfl (by simp) fun w0 G0 => ?_
  refine WA_seq (x := (fcd Try.f50 [0])) (y := (fcd Try.f50 [1])) ?_
  refine V_regionX Γ Δ [] [0, 1, 2, 3, 4, 5, 6, 7, 8, 9, 11, 41, 45, 51] (evs ?_)
  all_goals (try with_reducible (repeat' (first | apply And.intro | intro _)))
  all_goals (try (first | with_reducible refine wa_id ?_ | exact True.intro | omega | exact gri_b2 hn (tly t ‹_›) (tlx t ‹_›) | exact gri_b3 hn (tly t ‹_›) (tlx t ‹_›)))
  refine WA_seq (x := (fcd Try.f50 [1, 0])) (y := (fcd Try.f50 [1, 1])) ?_
  refine WA_seq (x := (fcd Try.f50 [1, 0, 0])) (y := (fcd Try.f50 [1, 0, 1])) ?_
  refine V_regionX Γ Δ [] [0, 1, 2, 3, 4, 5, 6, 7, 8, 9, 11, 41, 45, 51] (evs ?_)
  all_goals (try with_reducible (repeat' (first | apply And.intro | intro _)))
  all_goals (try (first | with_reducible refine wa_id ?_ | exact True.intro | exact empty_fn _ | omega | exact gri_b2 hn (tly t ‹_›) (tlx t ‹_›) | exact gri_b3 hn (tly t ‹_›) (tlx t ‹_›)))
  refine V_cond (evs ?_)
  refine ⟨fun hc => ?_, fun hc => ?_⟩
  · refine WA_seq (x := (fcd Try.f50 [1, 0, 1, 0, 0])) (y := (fcd Try.f50 [1, 0, 1, 0, 1])) ?_
    refine V_regionX Γ Δ [] [0, 1, 2, 3, 4, 5, 6, 7, 8, 9, 11, 41, 45, 51] (evs ?_)
    all_goals (try with_reducible (repeat' (first | apply And.intro | intro _)))
    all_goals (try (first | with_reducible refine wa_id ?_ | exact True.intro | omega | exact gri_b2 hn (tly t ‹_›) (tlx t ‹_›) | exact gri_b3 hn (tly t ‹_›) (tlx t ‹_›)))
    refine V_ret (evs ?_)
    first | exact tl1 hc | exact tl2 ‹_› hc | exact tl3 t ‹_› hm hI hc
  · refine WA_skip ?_
    refine WA_seq (x := (fcd Try.f50 [1, 1, 0])) (y := (fcd Try.f50 [1, 1, 1])) ?_
    refine V_draw Γ [] [0, 1, 2, 3, 4, 5, 6, 7, 8, 9, 11, 41, 45, 51] mixed (by kernel_rfl) (evs ?_)
    have e := empty_spec.1 hc
    simp (disch := omega) only [w64]
    all_goals (try with_reducible (repeat' (first | apply And.intro | intro _)))
    all_goals (try (first | with_reducible refine wa_id ?_ | exact True.intro | exact tile_fn _ (by omega) (by omega) | omega | exact gri_b2 hn (tly t ‹_›) (tlx t ‹_›) | exact gri_b3 hn (tly t ‹_›) (tlx t ‹_›)))
    refine WA_seq (x := (fcd Try.f50 [1, 1, 1, 0])) (y := (fcd Try.f50 [1, 1, 1, 1])) ?_
    refine V_draw Γ [] [0, 1, 2, 3, 4, 5, 6, 7, 8, 9, 11, 41, 45, 51] mixed (by kernel_rfl) (evs ?_)
    simp (disch := omega) only [w64]
    all_goals (try with_reducible (repeat' (first | apply And.intro | intro _)))
    all_goals (try (first | with_reducible refine wa_id ?_ | exact True.intro | exact tile_fn _ (by omega) (by omega) | omega | exact gri_b2 hn (tly t ‹_›) (tlx t ‹_›) | exact gri_b3 hn (tly t ‹_›) (tlx t ‹_›)))
    refine WA_seq (x := (fcd Try.f50 [1, 1, 1, 1, 0])) (y := (fcd Try.f50 [1, 1, 1, 1, 1])) ?_
    refine WA_seq (x := (fcd Try.f50 [1, 1, 1, 1, 0, 0])) (y := (fcd Try.f50 [1, 1, 1, 1, 0, 1])) ?_
    refine V_regionX Γ Δ [] [0, 1, 2, 3, 4, 5, 6, 7, 8, 9, 11, 41, 45, 51] (evs ?_)
    have t := TB.of hc
    simp only [tw t.x0 t.xx t.x1, tw t.y0 t.yy t.y1, tw2 t]
    all_goals (try with_reducible (repeat' (first | apply And.intro | intro _)))
    all_goals (try (first | with_reducible refine wa_id ?_ | exact True.intro | omega | exact gri_b2 hn (tly t ‹_›) (tlx t ‹_›) | exact gri_b3 hn (tly t ‹_›) (tlx t ‹_›)))
    refine V_cond (evs ?_)
    refine ⟨fun hc => ?_, fun hc => ?_⟩
    · refine WA_seq (x := (fcd Try.f50 [1, 1, 1, 1, 0, 1, 0, 0])) (y := (fcd Try.f50 [1, 1, 1, 1, 0, 1, 0, 1])) ?_
      refine V_regionX Γ Δ [] [0, 1, 2, 3, 4, 5, 6, 7, 8, 9, 11, 41, 45, 51] (evs ?_)
      all_goals (try with_reducible (repeat' (first | apply And.intro | intro _)))
      all_goals (try (first | with_reducible refine wa_id ?_ | exact True.intro | omega | exact gri_b2 hn (tly t ‹_›) (tlx t ‹_›) | exact gri_b3 hn (tly t ‹_›) (tlx t ‹_›)))
      refine V_ret (evs ?_)
      first | exact tl1 hc | exact tl2 ‹_› hc | exact tl3 t ‹_› hm hI hc
    · refine WA_skip ?_
      refine WA_seq (x := (fcd Try.f50 [1, 1, 1, 1, 1, 0])) (y := (fcd Try.f50 [1, 1, 1, 1, 1, 1])) ?_
      refine V_regionX Γ Δ [] [0, 1, 2, 3, 4, 5, 6, 7, 8, 9, 11, 41, 45, 51] (evs ?_)
      have hm := hc
      have hn := nm_le t hc
      all_goals (try with_reducible (repeat' (first | apply And.intro | intro _)))
      all_goals (try (first | with_reducible refine wa_id ?_ | exact True.intro | omega | exact gri_b2 hn (tly t ‹_›) (tlx t ‹_›) | exact gri_b3 hn (tly t ‹_›) (tlx t ‹_›)))
      refine WA_seq (x := (fcd Try.f50 [1, 1, 1, 1, 1, 1, 0])) (y := (fcd Try.f50 [1, 1, 1, 1, 1, 1, 1])) ?_
      refine WA_seq (x := (fcd Try.f50 [1, 1, 1, 1, 1, 1, 0, 0])) (y := (fcd Try.f50 [1, 1, 1, 1, 1, 1, 0, 1])) ?_
      refine V_regionX Γ Δ [] [0, 1, 2, 3, 4, 5, 6, 7, 8, 9, 11, 41, 45, 51] (evs ?_)
      all_goals (try with_reducible (repeat' (first | apply And.intro | intro _)))
      all_goals (try (first | with_reducible refine wa_id ?_ | exact True.intro | omega | exact gri_b2 hn (tly t ‹_›) (tlx t ‹_›) | exact gri_b3 hn (tly t ‹_›) (tlx t ‹_›)))
      refine WA_block (c := (fcd Try.f50 [1, 1, 1, 1, 1, 1, 0, 1, 0])) ?_
      refine V_loop (c := (fcd Try.f50 [1, 1, 1, 1, 1, 1, 0, 1, 0, 0])) (α := Nat) [7, 8, 9, 45, 51] [58, 59] (fun j => [(8, .dat (.i (tileI r.y + (j : Int)))), (7, .vw 20000 0 (gr r j).length 2)]) (fun j => [(20000, some (true, .arr 29 2 ((gr r j).map ptC)))]) (fun j => j ≤ NY r) (fun j => NY r - j) 0 [(20000, none)] ?_ (evs ?_) ?_
      · exact Nat.zero_le _
      · (try with_reducible (repeat' (first | apply And.intro | intro _)))
        all_goals (first | exact True.intro | omega | (first | rfl | simp))
      · intro j hI
        refine WA_seq (x := (fcd Try.f50 [1, 1, 1, 1, 1, 1, 0, 1, 0, 0, 0])) (y := (fcd Try.f50 [1, 1, 1, 1, 1, 1, 0, 1, 0, 0, 1])) ?_
        refine WA_seq (x := (fcd Try.f50 [1, 1, 1, 1, 1, 1, 0, 1, 0, 0, 0, 0])) (y := (fcd Try.f50 [1, 1, 1, 1, 1, 1, 0, 1, 0, 0, 0, 1])) ?_
        refine V_regionX Γ Δ [] [0, 1, 2, 3, 4, 5, 6, 7, 8, 9, 11, 41, 45, 51] (evs ?_)
        all_goals (try with_reducible (repeat' (first | apply And.intro | intro _)))
        all_goals (try (first | with_reducible refine wa_id ?_ | exact True.intro | omega | exact gri_b2 hn (tly t ‹_›) (tlx t ‹_›) | exact gri_b3 hn (tly t ‹_›) (tlx t ‹_›)))
        refine V_cond (evs ?_)
        refine ⟨fun hc => ?_, fun hc => ?_⟩
        · refine WA_skip ?_
          refine WA_seq (x := (fcd Try.f50 [1, 1, 1, 1, 1, 1, 0, 1, 0, 0, 1, 0])) (y := (fcd Try.f50 [1, 1, 1, 1, 1, 1, 0, 1, 0, 0, 1, 1])) ?_
          refine WA_block (c := (fcd Try.f50 [1, 1, 1, 1, 1, 1, 0, 1, 0, 0, 1, 0, 0])) ?_
          refine WA_seq (x := (fcd Try.f50 [1, 1, 1, 1, 1, 1, 0, 1, 0, 0, 1, 0, 0, 0])) (y := (fcd Try.f50 [1, 1, 1, 1, 1, 1, 0, 1, 0, 0, 1, 0, 0, 1])) ?_
          refine V_regionX Γ Δ [] [0, 1, 2, 3, 4, 5, 6, 7, 8, 9, 11, 41, 45, 51] (evs ?_)
          all_goals (try with_reducible (repeat' (first | apply And.intro | intro _)))
          all_goals (try (first | with_reducible refine wa_id ?_ | exact True.intro | omega | exact gri_b2 hn (tly t ‹_›) (tlx t ‹_›) | exact gri_b3 hn (tly t ‹_›) (tlx t ‹_›)))
          refine WA_block (c := (fcd Try.f50 [1, 1, 1, 1, 1, 1, 0, 1, 0, 0, 1, 0, 0, 1, 0])) ?_
          refine V_loop (c := (fcd Try.f50 [1, 1, 1, 1, 1, 1, 0, 1, 0, 0, 1, 0, 0, 1, 0, 0])) (α := Nat) [7, 9, 51] [58, 59, 20000] (fun i => [(9, .dat (.i (tileI r.x + (i : Int)))), (7, .vw 20001 0 (gri r j i).length 2)]) (fun i => [(20001, some (true, .arr 29 2 ((gri r j i).map ptC)))]) (fun i => i ≤ NX r) (fun i => NX r - i) 0 [(20001, some 20000)] ?_ (evs ?_) ?_
          · exact Nat.zero_le _
          · (try with_reducible (repeat' (first | apply And.intro | intro _)))
            all_goals (first | exact True.intro | omega | (first | rfl | exact tk1 | exact tk2 | simp))
          · intro i hJ
            refine WA_seq (x := (fcd Try.f50 [1, 1, 1, 1, 1, 1, 0, 1, 0, 0, 1, 0, 0, 1, 0, 0, 0])) (y := (fcd Try.f50 [1, 1, 1, 1, 1, 1, 0, 1, 0, 0, 1, 0, 0, 1, 0, 0, 1])) ?_
            refine WA_seq (x := (fcd Try.f50 [1, 1, 1, 1, 1, 1, 0, 1, 0, 0, 1, 0, 0, 1, 0, 0, 0, 0])) (y := (fcd Try.f50 [1, 1, 1, 1, 1, 1, 0, 1, 0, 0, 1, 0, 0, 1, 0, 0, 0, 1])) ?_
            refine V_regionX Γ Δ [] [0, 1, 2, 3, 4, 5, 6, 7, 8, 9, 11, 41, 45, 51] (evs ?_)
            all_goals (try with_reducible (repeat' (first | apply And.intro | intro _)))
            all_goals (try (first | with_reducible refine wa_id ?_ | exact True.intro | omega | exact gri_b2 hn (tly t ‹_›) (tlx t ‹_›) | exact gri_b3 hn (tly t ‹_›) (tlx t ‹_›)))
            refine V_cond (evs ?_)
            refine ⟨fun hc => ?_, fun hc => ?_⟩
            · refine WA_skip ?_
              refine WA_seq (x := (fcd Try.f50 [1, 1, 1, 1, 1, 1, 0, 1, 0, 0, 1, 0, 0, 1, 0, 0, 1, 0])) (y := (fcd Try.f50 [1, 1, 1, 1, 1, 1, 0, 1, 0, 0, 1, 0, 0, 1, 0, 0, 1, 1])) ?_
              refine WA_block (c := (fcd Try.f50 [1, 1, 1, 1, 1, 1, 0, 1, 0, 0, 1, 0, 0, 1, 0, 0, 1, 0, 0])) ?_
              refine V_regionX Γ Δ [] [0, 1, 2, 3, 4, 5, 6, 7, 8, 9, 11, 41, 45, 51] (evs ?_)
              all_goals (try with_reducible (repeat' (first | apply And.intro | intro _)))
              all_goals (try (first | with_reducible refine wa_id ?_ | exact True.intro | omega | exact gri_b2 hn (tly t ‹_›) (tlx t ‹_›) | exact gri_b3 hn (tly t ‹_›) (tlx t ‹_›)))
              refine V_regionX Γ Δ [] [0, 1, 2, 3, 4, 5, 6, 7, 8, 9, 11, 41, 45, 51] (evs ?_)
              all_goals (try with_reducible (repeat' (first | apply And.intro | intro _)))
              all_goals (try (first | with_reducible refine wa_id ?_ | exact True.intro | omega | exact gri_b2 hn (tly t ‹_›) (tlx t ‹_›) | exact gri_b3 hn (tly t ‹_›) (tlx t ‹_›)))
              refine V_next [(20001, some 59)] (i + 1) (evs ?_) ?_ ?_
              all_goals (try with_reducible (repeat' (first | apply And.intro | intro _)))
              all_goals (first | exact True.intro | omega | (first | exact tj t.x0 (by have := t.x1; omega) | exact tk3 | exact tk4 | (have := tlx t hc; omega)))
            · refine V_exit (evs ?_)
              refine V_regionX Γ Δ [] [0, 1, 2, 3, 4, 5, 6, 7, 8, 9, 11, 41, 45, 51] (evs ?_)
              all_goals (try with_reducible (repeat' (first | apply And.intro | intro _)))
              all_goals (try (first | with_reducible refine wa_id ?_ | exact True.intro | omega | exact gri_b2 hn (tly t ‹_›) (tlx t ‹_›) | exact gri_b3 hn (tly t ‹_›) (tlx t ‹_›)))
              refine V_next [(20000, some 20001)] (j + 1) (evs ?_) ?_ ?_
              all_goals (try with_reducible (repeat' (first | apply And.intro | intro _)))
              all_goals (first | exact True.intro | omega | (first | exact tj t.y0 (by have := t.y1; omega) | exact tk6 t hJ hc | exact tk7 t hJ hc | (have := tly t ‹tileI r.y + (j : Int) ≤ _›; omega)))
        · refine V_exit (evs ?_)
          refine WA_seq (x := (fcd Try.f50 [1, 1, 1, 1, 1, 1, 1, 0])) (y := (fcd Try.f50 [1, 1, 1, 1, 1, 1, 1, 1])) ?_
          refine V_regionX Γ Δ [] [0, 1, 2, 3, 4, 5, 6, 7, 8, 9, 11, 41, 45, 51] (evs ?_)
          all_goals (try with_reducible (repeat' (first | apply And.intro | intro _)))
          all_goals (try (first | with_reducible refine wa_id ?_ | exact True.intro | omega | exact gri_b2 hn (tly t ‹_›) (tlx t ‹_›) | exact gri_b3 hn (tly t ‹_›) (tlx t ‹_›)))
          refine V_ret (evs ?_)
          first | exact tl1 hc | exact tl2 ‹_› hc | exact tl3 t ‹_› hm hI hc

/-- imageeditor/imageeditorref02.Valid -/
theorem rvalid_fn (r : Rc) : Eng.Fn Try.prog 36 [rcD r] (.dat (.b (validB r))) := by
  refine Eng.Fn.by (fn := Try.f36) 45 [.tmp 2] Try.func36 rfl Try.ntmps36 rfl (by simp) fun w0 G0 => ?_
  refine WA_seq (x := (fcd Try.f36 [0])) (y := (fcd Try.f36 [1])) ?_
  refine V_regionX Γ Δ [] [0, 1, 2, 20] (evs ?_)
  all_goals (try with_reducible (repeat' (first | apply And.intro | intro _)))
  all_goals (try (first | with_reducible refine wa_id ?_ | exact True.intro | omega))
  refine WA_seq (x := (fcd Try.f36 [1, 0])) (y := (fcd Try.f36 [1, 1])) ?_
  refine WA_seq (x := (fcd Try.f36 [1, 0, 0])) (y := (fcd Try.f36 [1, 0, 1])) ?_
  refine V_regionX Γ Δ [] [0, 1, 2, 20] (evs ?_)
  all_goals (try with_reducible (repeat' (first | apply And.intro | intro _)))
  all_goals (try (first | with_reducible refine wa_id ?_ | exact True.intro | omega))
  refine V_cond (evs ?_)
  refine ⟨fun hc => ?_, fun hc => ?_⟩
  · refine WA_seq (x := (fcd Try.f36 [1, 0, 1, 0, 0])) (y := (fcd Try.f36 [1, 0, 1, 0, 1])) ?_
    refine V_regionX Γ Δ [] [0, 1, 2, 20] (evs ?_)
    all_goals (try with_reducible (repeat' (first | apply And.intro | intro _)))
    all_goals (try (first | with_reducible refine wa_id ?_ | exact True.intro | omega))
    refine V_ret (evs ?_)
    all_goals (first | exact fin_rv1 hc | exact fin_rv2 hc)
  · refine WA_skip ?_
    refine WA_seq (x := (fcd Try.f36 [1, 1, 0])) (y := (fcd Try.f36 [1, 1, 1])) ?_
    refine V_regionX Γ Δ [] [0, 1, 2, 20] (evs ?_)
    all_goals (try with_reducible (repeat' (first | apply And.intro | intro _)))
    all_goals (try (first | with_reducible refine wa_id ?_ | exact True.intro | omega))
    refine V_ret (evs ?_)
    all_goals (first | exact fin_rv1 hc | exact fin_rv2 hc)

/-- imageeditor/imageeditorref02.Empty -/
theorem rempty_fn (r : Rc) : Eng.Fn Try.prog 37 [rcD r] (.dat (.b (emptyB r))) := by
  refine Eng.Fn.by (fn := Try.f37) 16 [.tmp 2] Try.func37 rfl Try.ntmps37 rfl (by simp) fun w0 G0 => ?_
  refine WA_seq (x := (fcd Try.f37 [0])) (y := (fcd Try.f37 [1])) ?_
  refine V_regionX Γ Δ [] [0, 1, 2] (evs ?_)
  all_goals (try with_reducible (repeat' (first | apply And.intro | intro _)))
  all_goals (try (first | with_reducible refine wa_id ?_ | exact True.intro | omega))
  refine WA_seq (x := (fcd Try.f37 [1, 0])) (y := (fcd Try.f37 [1, 1])) ?_
  refine V_regionX Γ Δ [] [0, 1, 2] (evs ?_)
  all_goals (try with_reducible (repeat' (first | apply And.intro | intro _)))
  all_goals (try (first | with_reducible refine wa_id ?_ | exact True.intro | exact rvalid_fn _ | omega))
  refine V_ret (evs ?_)
  rfl

/-- imageeditor/num.Clamp -/
theorem clamp_fn (a b c : Int) : Eng.Fn Try.prog 48 [.i a, .i b, .i c] (.dat (.i (clampI a b c))) := by
  refine Eng.Fn.by (fn := Try.f48) 12 [.tmp 6] Try.func48 rfl Try.ntmps48 rfl (by simp) fun w0 G0 => ?_
  refine WA_seq (x := (fcd Try.f48 [0])) (y := (fcd Try.f48 [1])) ?_
  refine V_regionX Γ Δ [] [0, 1, 2, 6] (evs ?_)
  all_goals (try with_reducible (repeat' (first | apply And.intro | intro _)))
  all_goals (try (first | with_reducible refine wa_id ?_ | exact True.intro | omega))
  refine WA_seq (x := (fcd Try.f48 [1, 0])) (y := (fcd Try.f48 [1, 1])) ?_
  refine V_regionX Γ Δ [] [0, 1, 2, 6] (evs ?_)
  all_goals (try with_reducible (repeat' (first | apply And.intro | intro _)))
  all_goals (try (first | with_reducible refine wa_id ?_ | exact True.intro | omega))
  refine V_ret (evs ?_)
  rfl

end Go.S03

