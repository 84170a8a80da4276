import Derived.Test.YtppghgoeibelkaaF23
import Derived.Test.YtppghgoeibelkaaLB
set_option linter.unusedSimpArgs false
set_option linter.unusedVariables false
namespace Go.S23
open Go.RowKit Go.Proofs Go.Eng Go.Rect
/-- imageeditor/rect.span -/
theorem span_fn (x w : Int) : Eng.Fn Try.prog 78 [.i x, .i w] (.dat (.b (spanB x w))) := by
  refine Eng.Fn.by (fn := Try.f78) 21 [.tmp 4] Try.func78 rfl Try.ntmps78 rfl (by simp) fun w0 => ?_
  refine WA_seq (x := (fcd Try.f78 [0])) (y := (fcd Try.f78 [1])) ?_
  refine V_regionX Γ Δ [] [0, 1, 4] (evs ?_)
  all_goals (try with_reducible (repeat' (first | apply And.intro | intro _)))
  all_goals (try (first | with_reducible refine wa_id ?_ | exact True.intro | omega))
  refine WA_seq (x := (fcd Try.f78 [1, 0])) (y := (fcd Try.f78 [1, 1])) ?_
  refine V_regionX Γ Δ [] [0, 1, 4] (evs ?_)
  all_goals (try with_reducible (repeat' (first | apply And.intro | intro _)))
  all_goals (try (first | with_reducible refine wa_id ?_ | exact True.intro | omega))
  refine V_ret (evs ?_)
  rw [Bool.eq_iff_iff]; simp only [spanB, Bool.and_eq_true, decide_eq_true_eq]
  constructor
  all_goals (intro ⟨⟨⟨h1, h2⟩, h3⟩, h4⟩; rw [w64 (by omega) (by omega)] at *; exact ⟨⟨⟨h1, h2⟩, h3⟩, h4⟩)

/-- imageeditor/rect.Valid -/
theorem valid_fn (r : Rc) : Eng.Fn Try.prog 50 [rcD r] (.dat (.b (validB r))) := by
  refine Eng.Fn.by (fn := Try.f50) 15 [.tmp 2] Try.func50 rfl Try.ntmps50 rfl (by simp) fun w0 => ?_
  refine WA_seq (x := (fcd Try.f50 [0])) (y := (fcd Try.f50 [1])) ?_
  refine V_regionX Γ Δ [] [0, 1, 2] (evs ?_)
  all_goals (try with_reducible (repeat' (first | apply And.intro | intro _)))
  all_goals (try (first | with_reducible refine wa_id ?_ | exact True.intro | omega))
  refine WA_seq (x := (fcd Try.f50 [1, 0])) (y := (fcd Try.f50 [1, 1])) ?_
  refine V_regionX Γ Δ [] [0, 1, 2] (evs ?_)
  all_goals (try with_reducible (repeat' (first | apply And.intro | intro _)))
  all_goals (try (first | with_reducible refine wa_id ?_ | exact True.intro | exact span_fn _ _ | omega))
  refine V_ret (evs ?_)
  rfl

/-- imageeditor/rect.Empty -/
theorem empty_fn (r : Rc) : Eng.Fn Try.prog 55 [rcD r] (.dat (.b (emptyB r))) := by
  refine Eng.Fn.by (fn := Try.f55) 16 [.tmp 2] Try.func55 rfl Try.ntmps55 rfl (by simp) fun w0 => ?_
  refine WA_seq (x := (fcd Try.f55 [0])) (y := (fcd Try.f55 [1])) ?_
  refine V_regionX Γ Δ [] [0, 1, 2] (evs ?_)
  all_goals (try with_reducible (repeat' (first | apply And.intro | intro _)))
  all_goals (try (first | with_reducible refine wa_id ?_ | exact True.intro | omega))
  refine WA_seq (x := (fcd Try.f55 [1, 0])) (y := (fcd Try.f55 [1, 1])) ?_
  refine V_regionX Γ Δ [] [0, 1, 2] (evs ?_)
  all_goals (try with_reducible (repeat' (first | apply And.intro | intro _)))
  all_goals (try (first | with_reducible refine wa_id ?_ | exact True.intro | exact valid_fn _ | omega))
  refine V_ret (evs ?_)
  rfl

/-- imageeditor/imageeditorref02.Valid -/
theorem rvalid_fn (r : Rc) : Eng.Fn Try.prog 53 [rcD r] (.dat (.b (validB r))) := by
  refine Eng.Fn.by (fn := Try.f53) 45 [.tmp 2] Try.func53 rfl Try.ntmps53 rfl (by simp) fun w0 => ?_
  refine WA_seq (x := (fcd Try.f53 [0])) (y := (fcd Try.f53 [1])) ?_
  refine V_regionX Γ Δ [] [0, 1, 2, 20] (evs ?_)
  all_goals (try with_reducible (repeat' (first | apply And.intro | intro _)))
  all_goals (try (first | with_reducible refine wa_id ?_ | exact True.intro | omega))
  refine WA_seq (x := (fcd Try.f53 [1, 0])) (y := (fcd Try.f53 [1, 1])) ?_
  refine WA_seq (x := (fcd Try.f53 [1, 0, 0])) (y := (fcd Try.f53 [1, 0, 1])) ?_
  refine V_regionX Γ Δ [] [0, 1, 2, 20] (evs ?_)
  all_goals (try with_reducible (repeat' (first | apply And.intro | intro _)))
  all_goals (try (first | with_reducible refine wa_id ?_ | exact True.intro | omega))
  refine V_cond (evs ?_)
  refine ⟨fun hc => ?_, fun hc => ?_⟩
  · refine WA_seq (x := (fcd Try.f53 [1, 0, 1, 0, 0])) (y := (fcd Try.f53 [1, 0, 1, 0, 1])) ?_
    refine V_regionX Γ Δ [] [0, 1, 2, 20] (evs ?_)
    all_goals (try with_reducible (repeat' (first | apply And.intro | intro _)))
    all_goals (try (first | with_reducible refine wa_id ?_ | exact True.intro | omega))
    refine V_ret (evs ?_)
    all_goals (first | exact fin_rv1 hc | exact fin_rv2 hc)
  · refine WA_skip ?_
    refine WA_seq (x := (fcd Try.f53 [1, 1, 0])) (y := (fcd Try.f53 [1, 1, 1])) ?_
    refine V_regionX Γ Δ [] [0, 1, 2, 20] (evs ?_)
    all_goals (try with_reducible (repeat' (first | apply And.intro | intro _)))
    all_goals (try (first | with_reducible refine wa_id ?_ | exact True.intro | omega))
    refine V_ret (evs ?_)
    all_goals (first | exact fin_rv1 hc | exact fin_rv2 hc)

/-- imageeditor/imageeditorref02.Empty -/
theorem rempty_fn (r : Rc) : Eng.Fn Try.prog 58 [rcD r] (.dat (.b (emptyB r))) := by
  refine Eng.Fn.by (fn := Try.f58) 16 [.tmp 2] Try.func58 rfl Try.ntmps58 rfl (by simp) fun w0 => ?_
  refine WA_seq (x := (fcd Try.f58 [0])) (y := (fcd Try.f58 [1])) ?_
  refine V_regionX Γ Δ [] [0, 1, 2] (evs ?_)
  all_goals (try with_reducible (repeat' (first | apply And.intro | intro _)))
  all_goals (try (first | with_reducible refine wa_id ?_ | exact True.intro | omega))
  refine WA_seq (x := (fcd Try.f58 [1, 0])) (y := (fcd Try.f58 [1, 1])) ?_
  refine V_regionX Γ Δ [] [0, 1, 2] (evs ?_)
  all_goals (try with_reducible (repeat' (first | apply And.intro | intro _)))
  all_goals (try (first | with_reducible refine wa_id ?_ | exact True.intro | exact rvalid_fn _ | omega))
  refine V_ret (evs ?_)
  rfl

/-- imageeditor/imageeditorref02.span -/
theorem rspan_fn (r : Rc) (n : Int) : Eng.Fn Try.prog 80 [rcD r, .i n] (.tup [.dat (.i (spanS r n)), .dat (.i (spanE r n))]) := by
  refine Eng.Fn.by (fn := Try.f80) 37 [.tmp 4, .tmp 5] Try.func80 rfl Try.ntmps80 rfl (by simp) fun w0 => ?_
  refine WA_seq (x := (fcd Try.f80 [0])) (y := (fcd Try.f80 [1])) ?_
  refine V_regionX Γ Δ [] [0, 1, 2, 4, 5, 18, 20] (evs ?_)
  all_goals (try with_reducible (repeat' (first | apply And.intro | intro _)))
  all_goals (try (first | with_reducible refine wa_id ?_ | exact True.intro | omega))
  refine WA_seq (x := (fcd Try.f80 [1, 0])) (y := (fcd Try.f80 [1, 1])) ?_
  refine WA_seq (x := (fcd Try.f80 [1, 0, 0])) (y := (fcd Try.f80 [1, 0, 1])) ?_
  refine V_regionX Γ Δ [] [0, 1, 2, 4, 5, 18, 20] (evs ?_)
  all_goals (try with_reducible (repeat' (first | apply And.intro | intro _)))
  all_goals (try (first | with_reducible refine wa_id ?_ | exact True.intro | exact rvalid_fn _ | omega))
  refine V_cond (evs ?_)
  refine ⟨fun hc => ?_, fun hc => ?_⟩
  · refine WA_seq (x := (fcd Try.f80 [1, 0, 1, 0, 0])) (y := (fcd Try.f80 [1, 0, 1, 0, 1])) ?_
    refine V_regionX Γ Δ [] [0, 1, 2, 4, 5, 18, 20] (evs ?_)
    all_goals (try with_reducible (repeat' (first | apply And.intro | intro _)))
    all_goals (try (first | with_reducible refine wa_id ?_ | exact True.intro | omega))
    refine V_ret (evs ?_)
    first | exact fin_sp1 hc | exact fin_sp2 ‹_› hc | exact fin_sp3 ‹_› hc
  · refine WA_skip ?_
    refine WA_seq (x := (fcd Try.f80 [1, 1, 0])) (y := (fcd Try.f80 [1, 1, 1])) ?_
    refine WA_seq (x := (fcd Try.f80 [1, 1, 0, 0])) (y := (fcd Try.f80 [1, 1, 0, 1])) ?_
    refine V_regionX Γ Δ [] [0, 1, 2, 4, 5, 18, 20] (evs ?_)
    all_goals (try with_reducible (repeat' (first | apply And.intro | intro _)))
    all_goals (try (first | with_reducible refine wa_id ?_ | exact True.intro | omega))
    refine V_cond (evs ?_)
    refine ⟨fun hc => ?_, fun hc => ?_⟩
    · refine WA_seq (x := (fcd Try.f80 [1, 1, 0, 1, 0, 0])) (y := (fcd Try.f80 [1, 1, 0, 1, 0, 1])) ?_
      refine V_draw Γ [] [0, 1, 2, 4, 5, 18, 20] mixed (by kernel_rfl) (evs ?_)
      all_goals (try with_reducible (repeat' (first | apply And.intro | intro _)))
      all_goals (try (first | with_reducible refine wa_id ?_ | exact True.intro | omega))
      refine V_ret (evs ?_)
      first | exact fin_sp1 hc | exact fin_sp2 ‹_› hc | exact fin_sp3 ‹_› hc
    · refine WA_skip ?_
      refine WA_seq (x := (fcd Try.f80 [1, 1, 1, 0])) (y := (fcd Try.f80 [1, 1, 1, 1])) ?_
      refine V_draw Γ [] [0, 1, 2, 4, 5, 18, 20] mixed (by kernel_rfl) (evs ?_)
      all_goals (try with_reducible (repeat' (first | apply And.intro | intro _)))
      all_goals (try (first | with_reducible refine wa_id ?_ | exact True.intro | omega))
      refine V_ret (evs ?_)
      first | exact fin_sp1 hc | exact fin_sp2 ‹_› hc | exact fin_sp3 ‹_› hc

/-- imageeditor/imageeditorref02.Has -/
theorem rhas_fn (r : Rc) (p : Pt) : Eng.Fn Try.prog 54 [rcD r, ptD p] (.dat (.b (hasB r p))) := by
  refine Eng.Fn.by (fn := Try.f54) 41 [.tmp 4] Try.func54 rfl Try.ntmps54 rfl (by simp) fun w0 => ?_
  refine WA_seq (x := (fcd Try.f54 [0])) (y := (fcd Try.f54 [1])) ?_
  refine V_regionX Γ Δ [] [0, 1, 2, 3, 4, 5, 6, 7, 8] (evs ?_)
  all_goals (try with_reducible (repeat' (first | apply And.intro | intro _)))
  all_goals (try (first | with_reducible refine wa_id ?_ | exact True.intro | omega))
  refine WA_seq (x := (fcd Try.f54 [1, 0])) (y := (fcd Try.f54 [1, 1])) ?_
  refine V_regionX Γ Δ [] [0, 1, 2, 3, 4, 5, 6, 7, 8] (evs ?_)
  all_goals (try with_reducible (repeat' (first | apply And.intro | intro _)))
  all_goals (try (first | with_reducible refine wa_id ?_ | exact True.intro | exact rspan_fn _ _ | omega))
  refine WA_seq (x := (fcd Try.f54 [1, 1, 0])) (y := (fcd Try.f54 [1, 1, 1])) ?_
  refine V_regionX Γ Δ [] [0, 1, 2, 3, 4, 5, 6, 7, 8] (evs ?_)
  all_goals (try with_reducible (repeat' (first | apply And.intro | intro _)))
  all_goals (try (first | with_reducible refine wa_id ?_ | exact True.intro | exact rspan_fn _ _ | omega))
  refine WA_seq (x := (fcd Try.f54 [1, 1, 1, 0])) (y := (fcd Try.f54 [1, 1, 1, 1])) ?_
  refine V_regionX Γ Δ [] [0, 1, 2, 3, 4, 5, 6, 7, 8] (evs ?_)
  all_goals (try with_reducible (repeat' (first | apply And.intro | intro _)))
  all_goals (try (first | with_reducible refine wa_id ?_ | exact True.intro | omega))
  refine V_ret (evs ?_)
  exact fin_rhas

/-- imageeditor/rect.between -/
theorem between_fn (x0 y0 x1 y1 : Int) : Eng.Fn Try.prog 79 [.i x0, .i y0, .i x1, .i y1] (.dat (rcD (betweenR x0 y0 x1 y1))) := by
  refine Eng.Fn.by (fn := Try.f79) 35 [.cell 8 26] Try.func79 rfl Try.ntmps79 rfl (by simp) fun w0 => ?_
  refine WA_seq (x := (fcd Try.f79 [0])) (y := (fcd Try.f79 [1])) ?_
  refine V_regionX Γ Δ [] [0, 1, 2, 3, 8, 24] (evs ?_)
  all_goals (try with_reducible (repeat' (first | apply And.intro | intro _)))
  all_goals (try (first | with_reducible refine wa_id ?_ | exact True.intro | omega))
  refine WA_seq (x := (fcd Try.f79 [1, 0])) (y := (fcd Try.f79 [1, 1])) ?_
  refine V_regionX Γ Δ [] [0, 1, 2, 3, 8, 24] (evs ?_)
  all_goals (try with_reducible (repeat' (first | apply And.intro | intro _)))
  all_goals (try (first | with_reducible refine wa_id ?_ | exact True.intro | omega))
  refine WA_seq (x := (fcd Try.f79 [1, 1, 0])) (y := (fcd Try.f79 [1, 1, 1])) ?_
  refine V_regionX Γ Δ [] [0, 1, 2, 3, 8, 24] (evs ?_)
  all_goals (try with_reducible (repeat' (first | apply And.intro | intro _)))
  all_goals (try (first | with_reducible refine wa_id ?_ | exact True.intro | omega))
  refine WA_seq (x := (fcd Try.f79 [1, 1, 1, 0])) (y := (fcd Try.f79 [1, 1, 1, 1])) ?_
  refine WA_seq (x := (fcd Try.f79 [1, 1, 1, 0, 0])) (y := (fcd Try.f79 [1, 1, 1, 0, 1])) ?_
  refine V_regionX Γ Δ [] [0, 1, 2, 3, 8, 24] (evs ?_)
  all_goals (try with_reducible (repeat' (first | apply And.intro | intro _)))
  all_goals (try (first | with_reducible refine wa_id ?_ | exact True.intro | omega))
  refine V_cond (evs ?_)
  refine ⟨fun hc => ?_, fun hc => ?_⟩
  · refine WA_seq (x := (fcd Try.f79 [1, 1, 1, 0, 1, 0, 0])) (y := (fcd Try.f79 [1, 1, 1, 0, 1, 0, 1])) ?_
    refine V_regionX Γ Δ [] [0, 1, 2, 3, 8, 24] (evs ?_)
    all_goals (try with_reducible (repeat' (first | apply And.intro | intro _)))
    all_goals (try (first | with_reducible refine wa_id ?_ | exact True.intro | omega))
    refine V_ret (evs ?_)
    first | exact fe (r := zR) (fin_b1 hc) | exact fe (fin_b2 hc)
  · refine WA_skip ?_
    refine WA_seq (x := (fcd Try.f79 [1, 1, 1, 1, 0])) (y := (fcd Try.f79 [1, 1, 1, 1, 1])) ?_
    refine V_regionX Γ Δ [] [0, 1, 2, 3, 8, 24] (evs ?_)
    all_goals (try with_reducible (repeat' (first | apply And.intro | intro _)))
    all_goals (try (first | with_reducible refine wa_id ?_ | exact True.intro | omega))
    refine V_ret (evs ?_)
    first | exact fe (r := zR) (fin_b1 hc) | exact fe (fin_b2 hc)

/-- imageeditor/rect.Meet -/
theorem meet_fn (a b : Rc) : Eng.Fn Try.prog 52 [rcD a, rcD b] (.dat (rcD (meetR a b))) := by
  refine Eng.Fn.by (fn := Try.f52) 45 [.cell 4 26] Try.func52 rfl Try.ntmps52 rfl (by simp) fun w0 => ?_
  refine WA_seq (x := (fcd Try.f52 [0])) (y := (fcd Try.f52 [1])) ?_
  refine V_regionX Γ Δ [] [0, 1, 2, 3, 4, 10] (evs ?_)
  all_goals (try with_reducible (repeat' (first | apply And.intro | intro _)))
  all_goals (try (first | with_reducible refine wa_id ?_ | exact True.intro | omega))
  refine WA_seq (x := (fcd Try.f52 [1, 0])) (y := (fcd Try.f52 [1, 1])) ?_
  refine WA_seq (x := (fcd Try.f52 [1, 0, 0])) (y := (fcd Try.f52 [1, 0, 1])) ?_
  refine V_regionX Γ Δ [] [0, 1, 2, 3, 4, 10] (evs ?_)
  all_goals (try with_reducible (repeat' (first | apply And.intro | intro _)))
  all_goals (try (first | with_reducible refine wa_id ?_ | exact True.intro | exact empty_fn _ | omega))
  refine V_cond (evs ?_)
  refine ⟨fun hc => ?_, fun hc => ?_⟩
  · refine WA_seq (x := (fcd Try.f52 [1, 0, 1, 0, 0])) (y := (fcd Try.f52 [1, 0, 1, 0, 1])) ?_
    refine V_regionX Γ Δ [] [0, 1, 2, 3, 4, 10] (evs ?_)
    all_goals (try with_reducible (repeat' (first | apply And.intro | intro _)))
    all_goals (try (first | with_reducible refine wa_id ?_ | exact True.intro | omega))
    refine V_ret (evs ?_)
    first | exact fe (r := zR) (fin_m1 hc) | exact fe (fin_m2 hc)
  · refine WA_skip ?_
    refine WA_seq (x := (fcd Try.f52 [1, 1, 0])) (y := (fcd Try.f52 [1, 1, 1])) ?_
    refine V_regionX Γ Δ [] [0, 1, 2, 3, 4, 10] (evs ?_)
    all_goals (try with_reducible (repeat' (first | apply And.intro | intro _)))
    all_goals (try (first | with_reducible refine wa_id ?_ | exact True.intro | exact between_fn _ _ _ _ | omega))
    refine V_ret (evs ?_)
    first | exact fe (r := zR) (fin_m1 hc) | exact fe (fin_m2 hc)

/-- imageeditor/imageeditorref02.of -/
theorem of_fn (x0 x1 y0 y1 : Int) (h1 : -4611686018427387904 ≤ x0) (h2 : x1 ≤ 4611686018427387900) (h3 : -4611686018427387904 ≤ y0) (h4 : y1 ≤ 4611686018427387900) : Eng.Fn Try.prog 92 [.i x0, .i x1, .i y0, .i y1] (.dat (rcD (ofR x0 x1 y0 y1))) := by
  refine Eng.Fn.by (fn := Try.f92) 29 [.cell 8 26] Try.func92 rfl Try.ntmps92 rfl (by simp) fun w0 => ?_
  refine WA_seq (x := (fcd Try.f92 [0])) (y := (fcd Try.f92 [1])) ?_
  refine V_regionX Γ Δ [] [0, 1, 2, 3, 8, 16] (evs ?_)
  all_goals (try with_reducible (repeat' (first | apply And.intro | intro _)))
  all_goals (try (first | with_reducible refine wa_id ?_ | exact True.intro | omega))
  refine WA_seq (x := (fcd Try.f92 [1, 0])) (y := (fcd Try.f92 [1, 1])) ?_
  refine WA_seq (x := (fcd Try.f92 [1, 0, 0])) (y := (fcd Try.f92 [1, 0, 1])) ?_
  refine V_regionX Γ Δ [] [0, 1, 2, 3, 8, 16] (evs ?_)
  all_goals (try with_reducible (repeat' (first | apply And.intro | intro _)))
  all_goals (try (first | with_reducible refine wa_id ?_ | exact True.intro | omega))
  refine V_cond (evs ?_)
  refine ⟨fun hc => ?_, fun hc => ?_⟩
  · refine WA_seq (x := (fcd Try.f92 [1, 0, 1, 0, 0])) (y := (fcd Try.f92 [1, 0, 1, 0, 1])) ?_
    refine V_regionX Γ Δ [] [0, 1, 2, 3, 8, 16] (evs ?_)
    all_goals (try with_reducible (repeat' (first | apply And.intro | intro _)))
    all_goals (try (first | with_reducible refine wa_id ?_ | exact True.intro | omega))
    refine V_ret (evs ?_)
    first | exact fe (r := zR) (fin_o1 hc) | exact fe (fin_o2 h1 h2 h3 h4 hc)
  · refine WA_skip ?_
    refine WA_seq (x := (fcd Try.f92 [1, 1, 0])) (y := (fcd Try.f92 [1, 1, 1])) ?_
    refine V_regionX Γ Δ [] [0, 1, 2, 3, 8, 16] (evs ?_)
    all_goals (try with_reducible (repeat' (first | apply And.intro | intro _)))
    all_goals (try (first | with_reducible refine wa_id ?_ | exact True.intro | omega))
    refine V_ret (evs ?_)
    first | exact fe (r := zR) (fin_o1 hc) | exact fe (fin_o2 h1 h2 h3 h4 hc)

/-- imageeditor/imageeditorref02.Join -/
theorem rjoin_fn (a b : Rc) : Eng.Fn Try.prog 75 [rcD a, rcD b] (.dat (rcD (joinR a b))) := by
  refine Eng.Fn.by (fn := Try.f75) 59 [.cell 4 26] Try.func75 rfl Try.ntmps75 rfl (by simp) fun w0 => ?_
  refine WA_seq (x := (fcd Try.f75 [0])) (y := (fcd Try.f75 [1])) ?_
  refine V_regionX Γ Δ [] [0, 1, 2, 3, 4, 5, 6, 7, 8, 9, 10, 11, 12, 18, 21, 24] (evs ?_)
  all_goals (try with_reducible (repeat' (first | apply And.intro | intro _)))
  all_goals (try (first | with_reducible refine wa_id ?_ | exact True.intro | omega | (have := sp_bd a 0; have := sp_bd a 1; have := sp_bd b 0; have := sp_bd b 1; exact of_fn _ _ _ _ (by omega) (by omega) (by omega) (by omega))))
  refine WA_seq (x := (fcd Try.f75 [1, 0])) (y := (fcd Try.f75 [1, 1])) ?_
  refine WA_seq (x := (fcd Try.f75 [1, 0, 0])) (y := (fcd Try.f75 [1, 0, 1])) ?_
  refine V_regionX Γ Δ [] [0, 1, 2, 3, 4, 5, 6, 7, 8, 9, 10, 11, 12, 18, 21, 24] (evs ?_)
  all_goals (try with_reducible (repeat' (first | apply And.intro | intro _)))
  all_goals (try (first | with_reducible refine wa_id ?_ | exact True.intro | exact rempty_fn _ | omega | (have := sp_bd a 0; have := sp_bd a 1; have := sp_bd b 0; have := sp_bd b 1; exact of_fn _ _ _ _ (by omega) (by omega) (by omega) (by omega))))
  refine V_cond (evs ?_)
  refine ⟨fun hc => ?_, fun hc => ?_⟩
  · refine WA_seq (x := (fcd Try.f75 [1, 0, 1, 0, 0])) (y := (fcd Try.f75 [1, 0, 1, 0, 1])) ?_
    refine V_regionX Γ Δ [] [0, 1, 2, 3, 4, 5, 6, 7, 8, 9, 10, 11, 12, 18, 21, 24] (evs ?_)
    all_goals (try with_reducible (repeat' (first | apply And.intro | intro _)))
    all_goals (try (first | with_reducible refine wa_id ?_ | exact True.intro | omega | (have := sp_bd a 0; have := sp_bd a 1; have := sp_bd b 0; have := sp_bd b 1; exact of_fn _ _ _ _ (by omega) (by omega) (by omega) (by omega))))
    refine V_ret (evs ?_)
    first | exact fe (r := zR) (fin_j1 hc) | exact fe (fin_j2 ‹_› hc) | exact fe (fin_j3 ‹_› hc) | exact fe (fin_j5 ‹_› hc)
  · refine WA_skip ?_
    refine WA_seq (x := (fcd Try.f75 [1, 1, 0])) (y := (fcd Try.f75 [1, 1, 1])) ?_
    refine WA_seq (x := (fcd Try.f75 [1, 1, 0, 0])) (y := (fcd Try.f75 [1, 1, 0, 1])) ?_
    refine V_regionX Γ Δ [] [0, 1, 2, 3, 4, 5, 6, 7, 8, 9, 10, 11, 12, 18, 21, 24] (evs ?_)
    all_goals (try with_reducible (repeat' (first | apply And.intro | intro _)))
    all_goals (try (first | with_reducible refine wa_id ?_ | exact True.intro | exact rempty_fn _ | omega | (have := sp_bd a 0; have := sp_bd a 1; have := sp_bd b 0; have := sp_bd b 1; exact of_fn _ _ _ _ (by omega) (by omega) (by omega) (by omega))))
    refine V_cond (evs ?_)
    refine ⟨fun hc => ?_, fun hc => ?_⟩
    · refine WA_seq (x := (fcd Try.f75 [1, 1, 0, 1, 0, 0])) (y := (fcd Try.f75 [1, 1, 0, 1, 0, 1])) ?_
      refine V_regionX Γ Δ [] [0, 1, 2, 3, 4, 5, 6, 7, 8, 9, 10, 11, 12, 18, 21, 24] (evs ?_)
      all_goals (try with_reducible (repeat' (first | apply And.intro | intro _)))
      all_goals (try (first | with_reducible refine wa_id ?_ | exact True.intro | omega | (have := sp_bd a 0; have := sp_bd a 1; have := sp_bd b 0; have := sp_bd b 1; exact of_fn _ _ _ _ (by omega) (by omega) (by omega) (by omega))))
      refine V_ret (evs ?_)
      first | exact fe (r := zR) (fin_j1 hc) | exact fe (fin_j2 ‹_› hc) | exact fe (fin_j3 ‹_› hc) | exact fe (fin_j5 ‹_› hc)
    · refine WA_skip ?_
      refine WA_seq (x := (fcd Try.f75 [1, 1, 1, 0])) (y := (fcd Try.f75 [1, 1, 1, 1])) ?_
      refine WA_seq (x := (fcd Try.f75 [1, 1, 1, 0, 0])) (y := (fcd Try.f75 [1, 1, 1, 0, 1])) ?_
      refine V_regionX Γ Δ [] [0, 1, 2, 3, 4, 5, 6, 7, 8, 9, 10, 11, 12, 18, 21, 24] (evs ?_)
      all_goals (try with_reducible (repeat' (first | apply And.intro | intro _)))
      all_goals (try (first | with_reducible refine wa_id ?_ | exact True.intro | exact rempty_fn _ | omega | (have := sp_bd a 0; have := sp_bd a 1; have := sp_bd b 0; have := sp_bd b 1; exact of_fn _ _ _ _ (by omega) (by omega) (by omega) (by omega))))
      refine V_cond (evs ?_)
      refine ⟨fun hc => ?_, fun hc => ?_⟩
      · refine WA_seq (x := (fcd Try.f75 [1, 1, 1, 0, 1, 0, 0])) (y := (fcd Try.f75 [1, 1, 1, 0, 1, 0, 1])) ?_
        refine V_regionX Γ Δ [] [0, 1, 2, 3, 4, 5, 6, 7, 8, 9, 10, 11, 12, 18, 21, 24] (evs ?_)
        all_goals (try with_reducible (repeat' (first | apply And.intro | intro _)))
        all_goals (try (first | with_reducible refine wa_id ?_ | exact True.intro | omega | (have := sp_bd a 0; have := sp_bd a 1; have := sp_bd b 0; have := sp_bd b 1; exact of_fn _ _ _ _ (by omega) (by omega) (by omega) (by omega))))
        refine V_ret (evs ?_)
        first | exact fe (r := zR) (fin_j1 hc) | exact fe (fin_j2 ‹_› hc) | exact fe (fin_j3 ‹_› hc) | exact fe (fin_j5 ‹_› hc)
      · refine WA_skip ?_
        refine WA_seq (x := (fcd Try.f75 [1, 1, 1, 1, 0])) (y := (fcd Try.f75 [1, 1, 1, 1, 1])) ?_
        refine V_regionX Γ Δ [] [0, 1, 2, 3, 4, 5, 6, 7, 8, 9, 10, 11, 12, 18, 21, 24] (evs ?_)
        all_goals (try with_reducible (repeat' (first | apply And.intro | intro _)))
        all_goals (try (first | with_reducible refine wa_id ?_ | exact True.intro | exact rspan_fn _ _ | omega | (have := sp_bd a 0; have := sp_bd a 1; have := sp_bd b 0; have := sp_bd b 1; exact of_fn _ _ _ _ (by omega) (by omega) (by omega) (by omega))))
        refine WA_seq (x := (fcd Try.f75 [1, 1, 1, 1, 1, 0])) (y := (fcd Try.f75 [1, 1, 1, 1, 1, 1])) ?_
        refine V_regionX Γ Δ [] [0, 1, 2, 3, 4, 5, 6, 7, 8, 9, 10, 11, 12, 18, 21, 24] (evs ?_)
        all_goals (try with_reducible (repeat' (first | apply And.intro | intro _)))
        all_goals (try (first | with_reducible refine wa_id ?_ | exact True.intro | exact rspan_fn _ _ | omega | (have := sp_bd a 0; have := sp_bd a 1; have := sp_bd b 0; have := sp_bd b 1; exact of_fn _ _ _ _ (by omega) (by omega) (by omega) (by omega))))
        refine WA_seq (x := (fcd Try.f75 [1, 1, 1, 1, 1, 1, 0])) (y := (fcd Try.f75 [1, 1, 1, 1, 1, 1, 1])) ?_
        refine V_regionX Γ Δ [] [0, 1, 2, 3, 4, 5, 6, 7, 8, 9, 10, 11, 12, 18, 21, 24] (evs ?_)
        all_goals (try with_reducible (repeat' (first | apply And.intro | intro _)))
        all_goals (try (first | with_reducible refine wa_id ?_ | exact True.intro | exact rspan_fn _ _ | omega | (have := sp_bd a 0; have := sp_bd a 1; have := sp_bd b 0; have := sp_bd b 1; exact of_fn _ _ _ _ (by omega) (by omega) (by omega) (by omega))))
        refine WA_seq (x := (fcd Try.f75 [1, 1, 1, 1, 1, 1, 1, 0])) (y := (fcd Try.f75 [1, 1, 1, 1, 1, 1, 1, 1])) ?_
        refine V_regionX Γ Δ [] [0, 1, 2, 3, 4, 5, 6, 7, 8, 9, 10, 11, 12, 18, 21, 24] (evs ?_)
        all_goals (try with_reducible (repeat' (first | apply And.intro | intro _)))
        all_goals (try (first | with_reducible refine wa_id ?_ | exact True.intro | exact rspan_fn _ _ | omega | (have := sp_bd a 0; have := sp_bd a 1; have := sp_bd b 0; have := sp_bd b 1; exact of_fn _ _ _ _ (by omega) (by omega) (by omega) (by omega))))
        refine WA_seq (x := (fcd Try.f75 [1, 1, 1, 1, 1, 1, 1, 1, 0])) (y := (fcd Try.f75 [1, 1, 1, 1, 1, 1, 1, 1, 1])) ?_
        refine V_regionX Γ Δ [] [0, 1, 2, 3, 4, 5, 6, 7, 8, 9, 10, 11, 12, 18, 21, 24] (evs ?_)
        all_goals (try with_reducible (repeat' (first | apply And.intro | intro _)))
        all_goals (try (first | with_reducible refine wa_id ?_ | exact True.intro | exact of_fn _ _ _ _ (by omega) (by omega) (by omega) (by omega) | omega | (have := sp_bd a 0; have := sp_bd a 1; have := sp_bd b 0; have := sp_bd b 1; exact of_fn _ _ _ _ (by omega) (by omega) (by omega) (by omega))))
        refine V_ret (evs ?_)
        first | exact fe (r := zR) (fin_j1 hc) | exact fe (fin_j2 ‹_› hc) | exact fe (fin_j3 ‹_› hc) | exact fe (fin_j5 ‹_› hc)

end Go.S23

