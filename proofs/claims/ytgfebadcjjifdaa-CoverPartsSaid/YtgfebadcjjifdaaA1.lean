import Derived.Test.YtgfebadcjjifdaaF20
import Derived.Test.YtgfebadcjjifdaaLB
namespace Go.S20
open Go.RowKit Go.Proofs Go.Eng Go.Rect
/-- imageeditor/rect.span -/
theorem span_fn (x w : Int) : Eng.Fn Try.prog 54 [.i x, .i w] (.dat (.b (spanB x w))) := by
  refine Eng.Fn.by (fn := Try.f54) 21 [.tmp 4] Try.func54 rfl Try.ntmps54 rfl (by simp) fun w0 => ?_
  refine WA_seq (x := (fcd Try.f54 [0])) (y := (fcd Try.f54 [1])) ?_
  refine V_regionX Γ Δ [] [0, 1, 4] (evs ?_)
  all_goals (try with_reducible (repeat' (first | apply And.intro | intro _)))
  all_goals (try (first | with_reducible refine wa_id ?_ | exact True.intro | omega))
  refine WA_seq (x := (fcd Try.f54 [1, 0])) (y := (fcd Try.f54 [1, 1])) ?_
  refine V_regionX Γ Δ [] [0, 1, 4] (evs ?_)
  all_goals (try with_reducible (repeat' (first | apply And.intro | intro _)))
  all_goals (try (first | with_reducible refine wa_id ?_ | exact True.intro | omega))
  refine V_ret (evs ?_)
  rw [Bool.eq_iff_iff]; simp only [spanB, Bool.and_eq_true, decide_eq_true_eq]
  constructor
  all_goals (intro ⟨⟨⟨h1, h2⟩, h3⟩, h4⟩; rw [w64 (by omega) (by omega)] at *; exact ⟨⟨⟨h1, h2⟩, h3⟩, h4⟩)

/-- imageeditor/rect.Valid -/
theorem valid_fn (r : Rc) : Eng.Fn Try.prog 45 [rcD r] (.dat (.b (validB r))) := by
  refine Eng.Fn.by (fn := Try.f45) 15 [.tmp 2] Try.func45 rfl Try.ntmps45 rfl (by simp) fun w0 => ?_
  refine WA_seq (x := (fcd Try.f45 [0])) (y := (fcd Try.f45 [1])) ?_
  refine V_regionX Γ Δ [] [0, 1, 2] (evs ?_)
  all_goals (try with_reducible (repeat' (first | apply And.intro | intro _)))
  all_goals (try (first | with_reducible refine wa_id ?_ | exact True.intro | omega))
  refine WA_seq (x := (fcd Try.f45 [1, 0])) (y := (fcd Try.f45 [1, 1])) ?_
  refine V_regionX Γ Δ [] [0, 1, 2] (evs ?_)
  all_goals (try with_reducible (repeat' (first | apply And.intro | intro _)))
  all_goals (try (first | with_reducible refine wa_id ?_ | exact True.intro | exact span_fn _ _ | omega))
  refine V_ret (evs ?_)
  rfl

/-- imageeditor/rect.Empty -/
theorem empty_fn (r : Rc) : Eng.Fn Try.prog 24 [rcD r] (.dat (.b (emptyB r))) := by
  refine Eng.Fn.by (fn := Try.f24) 16 [.tmp 2] Try.func24 rfl Try.ntmps24 rfl (by simp) fun w0 => ?_
  refine WA_seq (x := (fcd Try.f24 [0])) (y := (fcd Try.f24 [1])) ?_
  refine V_regionX Γ Δ [] [0, 1, 2] (evs ?_)
  all_goals (try with_reducible (repeat' (first | apply And.intro | intro _)))
  all_goals (try (first | with_reducible refine wa_id ?_ | exact True.intro | omega))
  refine WA_seq (x := (fcd Try.f24 [1, 0])) (y := (fcd Try.f24 [1, 1])) ?_
  refine V_regionX Γ Δ [] [0, 1, 2] (evs ?_)
  all_goals (try with_reducible (repeat' (first | apply And.intro | intro _)))
  all_goals (try (first | with_reducible refine wa_id ?_ | exact True.intro | exact valid_fn _ | omega))
  refine V_ret (evs ?_)
  rfl

/-- imageeditor/imageeditorref02.Valid -/
theorem rvalid_fn (r : Rc) : Eng.Fn Try.prog 38 [rcD r] (.dat (.b (validB r))) := by
  refine Eng.Fn.by (fn := Try.f38) 45 [.tmp 2] Try.func38 rfl Try.ntmps38 rfl (by simp) fun w0 => ?_
  refine WA_seq (x := (fcd Try.f38 [0])) (y := (fcd Try.f38 [1])) ?_
  refine V_regionX Γ Δ [] [0, 1, 2, 20] (evs ?_)
  all_goals (try with_reducible (repeat' (first | apply And.intro | intro _)))
  all_goals (try (first | with_reducible refine wa_id ?_ | exact True.intro | omega))
  refine WA_seq (x := (fcd Try.f38 [1, 0])) (y := (fcd Try.f38 [1, 1])) ?_
  refine WA_seq (x := (fcd Try.f38 [1, 0, 0])) (y := (fcd Try.f38 [1, 0, 1])) ?_
  refine V_regionX Γ Δ [] [0, 1, 2, 20] (evs ?_)
  all_goals (try with_reducible (repeat' (first | apply And.intro | intro _)))
  all_goals (try (first | with_reducible refine wa_id ?_ | exact True.intro | omega))
  refine V_cond (evs ?_)
  refine ⟨fun hc => ?_, fun hc => ?_⟩
  · refine WA_seq (x := (fcd Try.f38 [1, 0, 1, 0, 0])) (y := (fcd Try.f38 [1, 0, 1, 0, 1])) ?_
    refine V_regionX Γ Δ [] [0, 1, 2, 20] (evs ?_)
    all_goals (try with_reducible (repeat' (first | apply And.intro | intro _)))
    all_goals (try (first | with_reducible refine wa_id ?_ | exact True.intro | omega))
    refine V_ret (evs ?_)
    all_goals (first | exact fin_rv1 hc | exact fin_rv2 hc)
  · refine WA_skip ?_
    refine WA_seq (x := (fcd Try.f38 [1, 1, 0])) (y := (fcd Try.f38 [1, 1, 1])) ?_
    refine V_regionX Γ Δ [] [0, 1, 2, 20] (evs ?_)
    all_goals (try with_reducible (repeat' (first | apply And.intro | intro _)))
    all_goals (try (first | with_reducible refine wa_id ?_ | exact True.intro | omega))
    refine V_ret (evs ?_)
    all_goals (first | exact fin_rv1 hc | exact fin_rv2 hc)

/-- imageeditor/imageeditorref02.Empty -/
theorem rempty_fn (r : Rc) : Eng.Fn Try.prog 39 [rcD r] (.dat (.b (emptyB r))) := by
  refine Eng.Fn.by (fn := Try.f39) 16 [.tmp 2] Try.func39 rfl Try.ntmps39 rfl (by simp) fun w0 => ?_
  refine WA_seq (x := (fcd Try.f39 [0])) (y := (fcd Try.f39 [1])) ?_
  refine V_regionX Γ Δ [] [0, 1, 2] (evs ?_)
  all_goals (try with_reducible (repeat' (first | apply And.intro | intro _)))
  all_goals (try (first | with_reducible refine wa_id ?_ | exact True.intro | omega))
  refine WA_seq (x := (fcd Try.f39 [1, 0])) (y := (fcd Try.f39 [1, 1])) ?_
  refine V_regionX Γ Δ [] [0, 1, 2] (evs ?_)
  all_goals (try with_reducible (repeat' (first | apply And.intro | intro _)))
  all_goals (try (first | with_reducible refine wa_id ?_ | exact True.intro | exact rvalid_fn _ | omega))
  refine V_ret (evs ?_)
  rfl

/-- imageeditor/rect.Has -/
theorem has_fn (r : Rc) (p : Pt) : Eng.Fn Try.prog 26 [rcD r, ptD p] (.dat (.b (hasB r p))) := by
  refine Eng.Fn.by (fn := Try.f26) 41 [.tmp 4] Try.func26 rfl Try.ntmps26 rfl (by simp) fun w0 => ?_
  refine WA_seq (x := (fcd Try.f26 [0])) (y := (fcd Try.f26 [1])) ?_
  refine V_regionX Γ Δ [] [0, 1, 2, 3, 4] (evs ?_)
  all_goals (try with_reducible (repeat' (first | apply And.intro | intro _)))
  all_goals (try (first | with_reducible refine wa_id ?_ | exact True.intro | omega))
  refine WA_seq (x := (fcd Try.f26 [1, 0])) (y := (fcd Try.f26 [1, 1])) ?_
  refine V_regionX Γ Δ [] [0, 1, 2, 3, 4] (evs ?_)
  all_goals (try with_reducible (repeat' (first | apply And.intro | intro _)))
  all_goals (try (first | with_reducible refine wa_id ?_ | exact True.intro | exact valid_fn _ | omega))
  refine V_ret (evs ?_)
  exact fin_has

/-- imageeditor/rect.Area -/
theorem area_fn (r : Rc) : Eng.Fn Try.prog 28 [rcD r] (.dat (.i (areaI r))) := by
  refine Eng.Fn.by (fn := Try.f28) 10 [.tmp 2] Try.func28 rfl Try.ntmps28 rfl (by simp) fun w0 => ?_
  refine WA_seq (x := (fcd Try.f28 [0])) (y := (fcd Try.f28 [1])) ?_
  refine V_regionX Γ Δ [] [0, 1, 2, 4] (evs ?_)
  all_goals (try with_reducible (repeat' (first | apply And.intro | intro _)))
  all_goals (try (first | with_reducible refine wa_id ?_ | exact True.intro | omega))
  refine WA_seq (x := (fcd Try.f28 [1, 0])) (y := (fcd Try.f28 [1, 1])) ?_
  refine WA_seq (x := (fcd Try.f28 [1, 0, 0])) (y := (fcd Try.f28 [1, 0, 1])) ?_
  refine V_regionX Γ Δ [] [0, 1, 2, 4] (evs ?_)
  all_goals (try with_reducible (repeat' (first | apply And.intro | intro _)))
  all_goals (try (first | with_reducible refine wa_id ?_ | exact True.intro | exact empty_fn _ | omega))
  refine V_cond (evs ?_)
  refine ⟨fun hc => ?_, fun hc => ?_⟩
  · refine WA_seq (x := (fcd Try.f28 [1, 0, 1, 0, 0])) (y := (fcd Try.f28 [1, 0, 1, 0, 1])) ?_
    refine V_regionX Γ Δ [] [0, 1, 2, 4] (evs ?_)
    all_goals (try with_reducible (repeat' (first | apply And.intro | intro _)))
    all_goals (try (first | with_reducible refine wa_id ?_ | exact True.intro | omega))
    refine V_ret (evs ?_)
    first | exact fin_a1 hc | exact fin_a2 hc
  · refine WA_skip ?_
    refine WA_seq (x := (fcd Try.f28 [1, 1, 0])) (y := (fcd Try.f28 [1, 1, 1])) ?_
    refine V_regionX Γ Δ [] [0, 1, 2, 4] (evs ?_)
    all_goals (try with_reducible (repeat' (first | apply And.intro | intro _)))
    all_goals (try (first | with_reducible refine wa_id ?_ | exact True.intro | omega))
    refine V_ret (evs ?_)
    first | exact fin_a1 hc | exact fin_a2 hc

/-- imageeditor/rect.Within -/
theorem within_fn (a b : Rc) : Eng.Fn Try.prog 30 [rcD a, rcD b] (.dat (.b (withinB a b))) := by
  refine Eng.Fn.by (fn := Try.f30) 47 [.tmp 4] Try.func30 rfl Try.ntmps30 rfl (by simp) fun w0 => ?_
  refine WA_seq (x := (fcd Try.f30 [0])) (y := (fcd Try.f30 [1])) ?_
  refine V_regionX Γ Δ [] [0, 1, 2, 3, 4, 6, 8] (evs ?_)
  all_goals (try with_reducible (repeat' (first | apply And.intro | intro _)))
  all_goals (try (first | with_reducible refine wa_id ?_ | exact True.intro | omega))
  refine WA_seq (x := (fcd Try.f30 [1, 0])) (y := (fcd Try.f30 [1, 1])) ?_
  refine WA_seq (x := (fcd Try.f30 [1, 0, 0])) (y := (fcd Try.f30 [1, 0, 1])) ?_
  refine V_regionX Γ Δ [] [0, 1, 2, 3, 4, 6, 8] (evs ?_)
  all_goals (try with_reducible (repeat' (first | apply And.intro | intro _)))
  all_goals (try (first | with_reducible refine wa_id ?_ | exact True.intro | exact empty_fn _ | omega))
  refine V_cond (evs ?_)
  refine ⟨fun hc => ?_, fun hc => ?_⟩
  · refine WA_seq (x := (fcd Try.f30 [1, 0, 1, 0, 0])) (y := (fcd Try.f30 [1, 0, 1, 0, 1])) ?_
    refine V_regionX Γ Δ [] [0, 1, 2, 3, 4, 6, 8] (evs ?_)
    all_goals (try with_reducible (repeat' (first | apply And.intro | intro _)))
    all_goals (try (first | with_reducible refine wa_id ?_ | exact True.intro | omega))
    refine V_ret (evs ?_)
    first | exact fin_w1 hc | exact fin_w2 ‹_› hc | exact fin_w3 ‹_› hc
  · refine WA_skip ?_
    refine WA_seq (x := (fcd Try.f30 [1, 1, 0])) (y := (fcd Try.f30 [1, 1, 1])) ?_
    refine WA_seq (x := (fcd Try.f30 [1, 1, 0, 0])) (y := (fcd Try.f30 [1, 1, 0, 1])) ?_
    refine V_regionX Γ Δ [] [0, 1, 2, 3, 4, 6, 8] (evs ?_)
    all_goals (try with_reducible (repeat' (first | apply And.intro | intro _)))
    all_goals (try (first | with_reducible refine wa_id ?_ | exact True.intro | exact empty_fn _ | omega))
    refine V_cond (evs ?_)
    refine ⟨fun hc => ?_, fun hc => ?_⟩
    · refine WA_seq (x := (fcd Try.f30 [1, 1, 0, 1, 0, 0])) (y := (fcd Try.f30 [1, 1, 0, 1, 0, 1])) ?_
      refine V_regionX Γ Δ [] [0, 1, 2, 3, 4, 6, 8] (evs ?_)
      all_goals (try with_reducible (repeat' (first | apply And.intro | intro _)))
      all_goals (try (first | with_reducible refine wa_id ?_ | exact True.intro | omega))
      refine V_ret (evs ?_)
      first | exact fin_w1 hc | exact fin_w2 ‹_› hc | exact fin_w3 ‹_› hc
    · refine WA_skip ?_
      refine WA_seq (x := (fcd Try.f30 [1, 1, 1, 0])) (y := (fcd Try.f30 [1, 1, 1, 1])) ?_
      refine V_regionX Γ Δ [] [0, 1, 2, 3, 4, 6, 8] (evs ?_)
      all_goals (try with_reducible (repeat' (first | apply And.intro | intro _)))
      all_goals (try (first | with_reducible refine wa_id ?_ | exact True.intro | omega))
      refine V_ret (evs ?_)
      first | exact fin_w1 hc | exact fin_w2 ‹_› hc | exact fin_w3 ‹_› hc

/-- imageeditor/rect.between -/
theorem between_fn (x0 y0 x1 y1 : Int) : Eng.Fn Try.prog 46 [.i x0, .i y0, .i x1, .i y1] (.dat (rcD (betweenR x0 y0 x1 y1))) := by
  refine Eng.Fn.by (fn := Try.f46) 35 [.cell 8 27] Try.func46 rfl Try.ntmps46 rfl (by simp) fun w0 => ?_
  refine WA_seq (x := (fcd Try.f46 [0])) (y := (fcd Try.f46 [1])) ?_
  refine V_regionX Γ Δ [] [0, 1, 2, 3, 8, 24] (evs ?_)
  all_goals (try with_reducible (repeat' (first | apply And.intro | intro _)))
  all_goals (try (first | with_reducible refine wa_id ?_ | exact True.intro | omega))
  refine WA_seq (x := (fcd Try.f46 [1, 0])) (y := (fcd Try.f46 [1, 1])) ?_
  refine V_regionX Γ Δ [] [0, 1, 2, 3, 8, 24] (evs ?_)
  all_goals (try with_reducible (repeat' (first | apply And.intro | intro _)))
  all_goals (try (first | with_reducible refine wa_id ?_ | exact True.intro | omega))
  refine WA_seq (x := (fcd Try.f46 [1, 1, 0])) (y := (fcd Try.f46 [1, 1, 1])) ?_
  refine V_regionX Γ Δ [] [0, 1, 2, 3, 8, 24] (evs ?_)
  all_goals (try with_reducible (repeat' (first | apply And.intro | intro _)))
  all_goals (try (first | with_reducible refine wa_id ?_ | exact True.intro | omega))
  refine WA_seq (x := (fcd Try.f46 [1, 1, 1, 0])) (y := (fcd Try.f46 [1, 1, 1, 1])) ?_
  refine WA_seq (x := (fcd Try.f46 [1, 1, 1, 0, 0])) (y := (fcd Try.f46 [1, 1, 1, 0, 1])) ?_
  refine V_regionX Γ Δ [] [0, 1, 2, 3, 8, 24] (evs ?_)
  all_goals (try with_reducible (repeat' (first | apply And.intro | intro _)))
  all_goals (try (first | with_reducible refine wa_id ?_ | exact True.intro | omega))
  refine V_cond (evs ?_)
  refine ⟨fun hc => ?_, fun hc => ?_⟩
  · refine WA_seq (x := (fcd Try.f46 [1, 1, 1, 0, 1, 0, 0])) (y := (fcd Try.f46 [1, 1, 1, 0, 1, 0, 1])) ?_
    refine V_regionX Γ Δ [] [0, 1, 2, 3, 8, 24] (evs ?_)
    all_goals (try with_reducible (repeat' (first | apply And.intro | intro _)))
    all_goals (try (first | with_reducible refine wa_id ?_ | exact True.intro | omega))
    refine V_ret (evs ?_)
    first | exact fe (r := zR) (fin_b1 hc) | exact fe (fin_b2 hc)
  · refine WA_skip ?_
    refine WA_seq (x := (fcd Try.f46 [1, 1, 1, 1, 0])) (y := (fcd Try.f46 [1, 1, 1, 1, 1])) ?_
    refine V_regionX Γ Δ [] [0, 1, 2, 3, 8, 24] (evs ?_)
    all_goals (try with_reducible (repeat' (first | apply And.intro | intro _)))
    all_goals (try (first | with_reducible refine wa_id ?_ | exact True.intro | omega))
    refine V_ret (evs ?_)
    first | exact fe (r := zR) (fin_b1 hc) | exact fe (fin_b2 hc)

/-- imageeditor/rect.Meet -/
theorem meet_fn (a b : Rc) : Eng.Fn Try.prog 29 [rcD a, rcD b] (.dat (rcD (meetR a b))) := by
  refine Eng.Fn.by (fn := Try.f29) 45 [.cell 4 27] Try.func29 rfl Try.ntmps29 rfl (by simp) fun w0 => ?_
  refine WA_seq (x := (fcd Try.f29 [0])) (y := (fcd Try.f29 [1])) ?_
  refine V_regionX Γ Δ [] [0, 1, 2, 3, 4, 10] (evs ?_)
  all_goals (try with_reducible (repeat' (first | apply And.intro | intro _)))
  all_goals (try (first | with_reducible refine wa_id ?_ | exact True.intro | omega))
  refine WA_seq (x := (fcd Try.f29 [1, 0])) (y := (fcd Try.f29 [1, 1])) ?_
  refine WA_seq (x := (fcd Try.f29 [1, 0, 0])) (y := (fcd Try.f29 [1, 0, 1])) ?_
  refine V_regionX Γ Δ [] [0, 1, 2, 3, 4, 10] (evs ?_)
  all_goals (try with_reducible (repeat' (first | apply And.intro | intro _)))
  all_goals (try (first | with_reducible refine wa_id ?_ | exact True.intro | exact empty_fn _ | omega))
  refine V_cond (evs ?_)
  refine ⟨fun hc => ?_, fun hc => ?_⟩
  · refine WA_seq (x := (fcd Try.f29 [1, 0, 1, 0, 0])) (y := (fcd Try.f29 [1, 0, 1, 0, 1])) ?_
    refine V_regionX Γ Δ [] [0, 1, 2, 3, 4, 10] (evs ?_)
    all_goals (try with_reducible (repeat' (first | apply And.intro | intro _)))
    all_goals (try (first | with_reducible refine wa_id ?_ | exact True.intro | omega))
    refine V_ret (evs ?_)
    first | exact fe (r := zR) (fin_m1 hc) | exact fe (fin_m2 hc)
  · refine WA_skip ?_
    refine WA_seq (x := (fcd Try.f29 [1, 1, 0])) (y := (fcd Try.f29 [1, 1, 1])) ?_
    refine V_regionX Γ Δ [] [0, 1, 2, 3, 4, 10] (evs ?_)
    all_goals (try with_reducible (repeat' (first | apply And.intro | intro _)))
    all_goals (try (first | with_reducible refine wa_id ?_ | exact True.intro | exact between_fn _ _ _ _ | omega))
    refine V_ret (evs ?_)
    first | exact fe (r := zR) (fin_m1 hc) | exact fe (fin_m2 hc)

/-- imageeditor/rect.Move -/
theorem move_fn (r : Rc) (p : Pt) : Eng.Fn Try.prog 27 [rcD r, ptD p] (.dat (rcD (moveR r p))) := by
  refine Eng.Fn.by (fn := Try.f27) 35 [.cell 4 27] Try.func27 rfl Try.ntmps27 rfl (by simp) fun w0 => ?_
  refine WA_seq (x := (fcd Try.f27 [0])) (y := (fcd Try.f27 [1])) ?_
  refine V_regionX Γ Δ [] [0, 1, 2, 3, 4, 5, 6, 8] (evs ?_)
  all_goals (try with_reducible (repeat' (first | apply And.intro | intro _)))
  all_goals (try (first | with_reducible refine wa_id ?_ | exact True.intro | omega))
  refine WA_seq (x := (fcd Try.f27 [1, 0])) (y := (fcd Try.f27 [1, 1])) ?_
  refine WA_seq (x := (fcd Try.f27 [1, 0, 0])) (y := (fcd Try.f27 [1, 0, 1])) ?_
  refine V_regionX Γ Δ [] [0, 1, 2, 3, 4, 5, 6, 8] (evs ?_)
  all_goals (try with_reducible (repeat' (first | apply And.intro | intro _)))
  all_goals (try (first | with_reducible refine wa_id ?_ | exact True.intro | exact empty_fn _ | omega))
  refine V_cond (evs ?_)
  refine ⟨fun hc => ?_, fun hc => ?_⟩
  · refine WA_seq (x := (fcd Try.f27 [1, 0, 1, 0, 0])) (y := (fcd Try.f27 [1, 0, 1, 0, 1])) ?_
    refine V_regionX Γ Δ [] [0, 1, 2, 3, 4, 5, 6, 8] (evs ?_)
    all_goals (try with_reducible (repeat' (first | apply And.intro | intro _)))
    all_goals (try (first | with_reducible refine wa_id ?_ | exact True.intro | omega))
    refine V_ret (evs ?_)
    first | exact fe (r := zR) (fin_z hc) | exact fe (fin_mv hc)
  · refine WA_skip ?_
    refine WA_seq (x := (fcd Try.f27 [1, 1, 0])) (y := (fcd Try.f27 [1, 1, 1])) ?_
    refine V_regionX Γ Δ [] [0, 1, 2, 3, 4, 5, 6, 8] (evs ?_)
    all_goals (try with_reducible (repeat' (first | apply And.intro | intro _)))
    all_goals (try (first | with_reducible refine wa_id ?_ | exact True.intro | omega))
    refine WA_seq (x := (fcd Try.f27 [1, 1, 1, 0])) (y := (fcd Try.f27 [1, 1, 1, 1])) ?_
    refine V_regionX Γ Δ [] [0, 1, 2, 3, 4, 5, 6, 8] (evs ?_)
    all_goals (try with_reducible (repeat' (first | apply And.intro | intro _)))
    all_goals (try (first | with_reducible refine wa_id ?_ | exact True.intro | omega))
    refine WA_seq (x := (fcd Try.f27 [1, 1, 1, 1, 0])) (y := (fcd Try.f27 [1, 1, 1, 1, 1])) ?_
    refine V_regionX Γ Δ [] [0, 1, 2, 3, 4, 5, 6, 8] (evs ?_)
    all_goals (try with_reducible (repeat' (first | apply And.intro | intro _)))
    all_goals (try (first | with_reducible refine wa_id ?_ | exact True.intro | exact between_fn _ _ _ _ | omega))
    refine V_ret (evs ?_)
    first | exact fe (r := zR) (fin_z hc) | exact fe (fin_mv hc)

end Go.S20

