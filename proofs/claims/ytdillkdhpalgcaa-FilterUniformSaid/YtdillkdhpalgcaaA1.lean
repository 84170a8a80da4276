import Derived.Test.YtdillkdhpalgcaaF16
set_option linter.unusedSimpArgs false
set_option linter.unusedVariables false
set_option linter.unusedSimpArgs false
set_option linter.unusedVariables false
namespace Go.S16
open Go.RowKit Go.Proofs Go.Eng Go.Rect
/-- imageeditor/rect.span -/
theorem span_fn (x w : Int) : Eng.Fn Try.prog 43 [.i x, .i w] (.dat (.b (spanB x w))) := by
  refine Eng.Fn.by (fn := Try.f43) 21 [.tmp 4] Try.func43 rfl Try.ntmps43 rfl (by simp) fun w0 G0 => ?_
  refine WA_seq (x := (fcd Try.f43 [0])) (y := (fcd Try.f43 [1])) ?_
  refine V_regionX Γ Δ [] [0, 1, 4] (evs ?_)
  all_goals (try with_reducible (repeat' (first | apply And.intro | intro _)))
  all_goals (try (first | with_reducible refine wa_id ?_ | exact True.intro | omega))
  refine WA_seq (x := (fcd Try.f43 [1, 0])) (y := (fcd Try.f43 [1, 1])) ?_
  refine V_regionX Γ Δ [] [0, 1, 4] (evs ?_)
  all_goals (try with_reducible (repeat' (first | apply And.intro | intro _)))
  all_goals (try (first | with_reducible refine wa_id ?_ | exact True.intro | omega))
  refine V_ret (evs ?_)
  rw [Bool.eq_iff_iff]; simp only [spanB, Bool.and_eq_true, decide_eq_true_eq]
  constructor
  all_goals (intro ⟨⟨⟨h1, h2⟩, h3⟩, h4⟩; rw [w64 (by omega) (by omega)] at *; exact ⟨⟨⟨h1, h2⟩, h3⟩, h4⟩)

/-- imageeditor/rect.Valid -/
theorem valid_fn (r : Rc) : Eng.Fn Try.prog 24 [rcD r] (.dat (.b (validB r))) := by
  refine Eng.Fn.by (fn := Try.f24) 15 [.tmp 2] Try.func24 rfl Try.ntmps24 rfl (by simp) fun w0 G0 => ?_
  refine WA_seq (x := (fcd Try.f24 [0])) (y := (fcd Try.f24 [1])) ?_
  refine V_regionX Γ Δ [] [0, 1, 2] (evs ?_)
  all_goals (try with_reducible (repeat' (first | apply And.intro | intro _)))
  all_goals (try (first | with_reducible refine wa_id ?_ | exact True.intro | omega))
  refine WA_seq (x := (fcd Try.f24 [1, 0])) (y := (fcd Try.f24 [1, 1])) ?_
  refine V_regionX Γ Δ [] [0, 1, 2] (evs ?_)
  all_goals (try with_reducible (repeat' (first | apply And.intro | intro _)))
  all_goals (try (first | with_reducible refine wa_id ?_ | exact True.intro | exact span_fn _ _ | omega))
  refine V_ret (evs ?_)
  rfl

/-- imageeditor/rect.Empty -/
theorem empty_fn (r : Rc) : Eng.Fn Try.prog 25 [rcD r] (.dat (.b (emptyB r))) := by
  refine Eng.Fn.by (fn := Try.f25) 16 [.tmp 2] Try.func25 rfl Try.ntmps25 rfl (by simp) fun w0 G0 => ?_
  refine WA_seq (x := (fcd Try.f25 [0])) (y := (fcd Try.f25 [1])) ?_
  refine V_regionX Γ Δ [] [0, 1, 2] (evs ?_)
  all_goals (try with_reducible (repeat' (first | apply And.intro | intro _)))
  all_goals (try (first | with_reducible refine wa_id ?_ | exact True.intro | omega))
  refine WA_seq (x := (fcd Try.f25 [1, 0])) (y := (fcd Try.f25 [1, 1])) ?_
  refine V_regionX Γ Δ [] [0, 1, 2] (evs ?_)
  all_goals (try with_reducible (repeat' (first | apply And.intro | intro _)))
  all_goals (try (first | with_reducible refine wa_id ?_ | exact True.intro | exact valid_fn _ | omega))
  refine V_ret (evs ?_)
  rfl

set_option maxRecDepth 100000 in
/-- imageeditor/rect.Within -/
theorem within_fn (a b : Rc) : Eng.Fn Try.prog 26 [rcD a, rcD b] (.dat (.b (withinB a b))) := by
  refine Eng.Fn.by (fn := Try.f26) 47 [.tmp 4] Try.func26 rfl Try.ntmps26 rfl (by simp) fun w0 G0 => ?_
  refine WA_seq (x := (fcd Try.f26 [0])) (y := (fcd Try.f26 [1])) ?_
  refine V_regionX Γ Δ [] [0, 1, 2, 3, 4, 6, 8] (evs ?_)
  all_goals (try with_reducible (repeat' (first | apply And.intro | intro _)))
  all_goals (try (first | with_reducible refine wa_id ?_ | exact True.intro | omega))
  refine WA_seq (x := (fcd Try.f26 [1, 0])) (y := (fcd Try.f26 [1, 1])) ?_
  refine WA_seq (x := (fcd Try.f26 [1, 0, 0])) (y := (fcd Try.f26 [1, 0, 1])) ?_
  refine V_regionX Γ Δ [] [0, 1, 2, 3, 4, 6, 8] (evs ?_)
  all_goals (try with_reducible (repeat' (first | apply And.intro | intro _)))
  all_goals (try (first | with_reducible refine wa_id ?_ | exact True.intro | exact empty_fn _ | omega))
  refine V_cond (evs ?_)
  refine ⟨fun hc => ?_, fun hc => ?_⟩
  · refine WA_seq (x := (fcd Try.f26 [1, 0, 1, 0, 0])) (y := (fcd Try.f26 [1, 0, 1, 0, 1])) ?_
    refine V_regionX Γ Δ [] [0, 1, 2, 3, 4, 6, 8] (evs ?_)
    all_goals (try with_reducible (repeat' (first | apply And.intro | intro _)))
    all_goals (try (first | with_reducible refine wa_id ?_ | exact True.intro | omega))
    refine V_ret (evs ?_)
    first | exact fin_w1 hc | exact fin_w2 ‹_› hc | exact fin_w3 ‹_› hc
  · refine WA_skip ?_
    refine WA_seq (x := (fcd Try.f26 [1, 1, 0])) (y := (fcd Try.f26 [1, 1, 1])) ?_
    refine WA_seq (x := (fcd Try.f26 [1, 1, 0, 0])) (y := (fcd Try.f26 [1, 1, 0, 1])) ?_
    refine V_regionX Γ Δ [] [0, 1, 2, 3, 4, 6, 8] (evs ?_)
    all_goals (try with_reducible (repeat' (first | apply And.intro | intro _)))
    all_goals (try (first | with_reducible refine wa_id ?_ | exact True.intro | exact empty_fn _ | omega))
    refine V_cond (evs ?_)
    refine ⟨fun hc => ?_, fun hc => ?_⟩
    · refine WA_seq (x := (fcd Try.f26 [1, 1, 0, 1, 0, 0])) (y := (fcd Try.f26 [1, 1, 0, 1, 0, 1])) ?_
      refine V_regionX Γ Δ [] [0, 1, 2, 3, 4, 6, 8] (evs ?_)
      all_goals (try with_reducible (repeat' (first | apply And.intro | intro _)))
      all_goals (try (first | with_reducible refine wa_id ?_ | exact True.intro | omega))
      refine V_ret (evs ?_)
      first | exact fin_w1 hc | exact fin_w2 ‹_› hc | exact fin_w3 ‹_› hc
    · refine WA_skip ?_
      refine WA_seq (x := (fcd Try.f26 [1, 1, 1, 0])) (y := (fcd Try.f26 [1, 1, 1, 1])) ?_
      refine V_regionX Γ Δ [] [0, 1, 2, 3, 4, 6, 8] (evs ?_)
      all_goals (try with_reducible (repeat' (first | apply And.intro | intro _)))
      all_goals (try (first | with_reducible refine wa_id ?_ | exact True.intro | omega))
      refine V_ret (evs ?_)
      first | exact fin_w1 hc | exact fin_w2 ‹_› hc | exact fin_w3 ‹_› hc

/-- imageeditor/rect.between -/
theorem between_fn (x0 y0 x1 y1 : Int) : Eng.Fn Try.prog 44 [.i x0, .i y0, .i x1, .i y1] (.dat (rcD (betweenR x0 y0 x1 y1))) := by
  refine Eng.Fn.by (fn := Try.f44) 35 [.cell 8 24] Try.func44 rfl Try.ntmps44 rfl (by simp) fun w0 G0 => ?_
  refine WA_seq (x := (fcd Try.f44 [0])) (y := (fcd Try.f44 [1])) ?_
  refine V_regionX Γ Δ [] [0, 1, 2, 3, 8, 24] (evs ?_)
  all_goals (try with_reducible (repeat' (first | apply And.intro | intro _)))
  all_goals (try (first | with_reducible refine wa_id ?_ | exact True.intro | omega))
  refine WA_seq (x := (fcd Try.f44 [1, 0])) (y := (fcd Try.f44 [1, 1])) ?_
  refine V_regionX Γ Δ [] [0, 1, 2, 3, 8, 24] (evs ?_)
  all_goals (try with_reducible (repeat' (first | apply And.intro | intro _)))
  all_goals (try (first | with_reducible refine wa_id ?_ | exact True.intro | omega))
  refine WA_seq (x := (fcd Try.f44 [1, 1, 0])) (y := (fcd Try.f44 [1, 1, 1])) ?_
  refine V_regionX Γ Δ [] [0, 1, 2, 3, 8, 24] (evs ?_)
  all_goals (try with_reducible (repeat' (first | apply And.intro | intro _)))
  all_goals (try (first | with_reducible refine wa_id ?_ | exact True.intro | omega))
  refine WA_seq (x := (fcd Try.f44 [1, 1, 1, 0])) (y := (fcd Try.f44 [1, 1, 1, 1])) ?_
  refine WA_seq (x := (fcd Try.f44 [1, 1, 1, 0, 0])) (y := (fcd Try.f44 [1, 1, 1, 0, 1])) ?_
  refine V_regionX Γ Δ [] [0, 1, 2, 3, 8, 24] (evs ?_)
  all_goals (try with_reducible (repeat' (first | apply And.intro | intro _)))
  all_goals (try (first | with_reducible refine wa_id ?_ | exact True.intro | omega))
  refine V_cond (evs ?_)
  refine ⟨fun hc => ?_, fun hc => ?_⟩
  · refine WA_seq (x := (fcd Try.f44 [1, 1, 1, 0, 1, 0, 0])) (y := (fcd Try.f44 [1, 1, 1, 0, 1, 0, 1])) ?_
    refine V_regionX Γ Δ [] [0, 1, 2, 3, 8, 24] (evs ?_)
    all_goals (try with_reducible (repeat' (first | apply And.intro | intro _)))
    all_goals (try (first | with_reducible refine wa_id ?_ | exact True.intro | omega))
    refine V_ret (evs ?_)
    first | exact fe (r := zR) (fin_b1 hc) | exact fe (fin_b2 hc)
  · refine WA_skip ?_
    refine WA_seq (x := (fcd Try.f44 [1, 1, 1, 1, 0])) (y := (fcd Try.f44 [1, 1, 1, 1, 1])) ?_
    refine V_regionX Γ Δ [] [0, 1, 2, 3, 8, 24] (evs ?_)
    all_goals (try with_reducible (repeat' (first | apply And.intro | intro _)))
    all_goals (try (first | with_reducible refine wa_id ?_ | exact True.intro | omega))
    refine V_ret (evs ?_)
    first | exact fe (r := zR) (fin_b1 hc) | exact fe (fin_b2 hc)

/-- imageeditor/rect.Meet -/
theorem meet_fn (a b : Rc) : Eng.Fn Try.prog 27 [rcD a, rcD b] (.dat (rcD (meetR a b))) := by
  refine Eng.Fn.by (fn := Try.f27) 45 [.cell 4 24] Try.func27 rfl Try.ntmps27 rfl (by simp) fun w0 G0 => ?_
  refine WA_seq (x := (fcd Try.f27 [0])) (y := (fcd Try.f27 [1])) ?_
  refine V_regionX Γ Δ [] [0, 1, 2, 3, 4, 10] (evs ?_)
  all_goals (try with_reducible (repeat' (first | apply And.intro | intro _)))
  all_goals (try (first | with_reducible refine wa_id ?_ | exact True.intro | omega))
  refine WA_seq (x := (fcd Try.f27 [1, 0])) (y := (fcd Try.f27 [1, 1])) ?_
  refine WA_seq (x := (fcd Try.f27 [1, 0, 0])) (y := (fcd Try.f27 [1, 0, 1])) ?_
  refine V_regionX Γ Δ [] [0, 1, 2, 3, 4, 10] (evs ?_)
  all_goals (try with_reducible (repeat' (first | apply And.intro | intro _)))
  all_goals (try (first | with_reducible refine wa_id ?_ | exact True.intro | exact empty_fn _ | omega))
  refine V_cond (evs ?_)
  refine ⟨fun hc => ?_, fun hc => ?_⟩
  · refine WA_seq (x := (fcd Try.f27 [1, 0, 1, 0, 0])) (y := (fcd Try.f27 [1, 0, 1, 0, 1])) ?_
    refine V_regionX Γ Δ [] [0, 1, 2, 3, 4, 10] (evs ?_)
    all_goals (try with_reducible (repeat' (first | apply And.intro | intro _)))
    all_goals (try (first | with_reducible refine wa_id ?_ | exact True.intro | omega))
    refine V_ret (evs ?_)
    first | exact fe (r := zR) (fin_m1 hc) | exact fe (fin_m2 hc)
  · refine WA_skip ?_
    refine WA_seq (x := (fcd Try.f27 [1, 1, 0])) (y := (fcd Try.f27 [1, 1, 1])) ?_
    refine V_regionX Γ Δ [] [0, 1, 2, 3, 4, 10] (evs ?_)
    all_goals (try with_reducible (repeat' (first | apply And.intro | intro _)))
    all_goals (try (first | with_reducible refine wa_id ?_ | exact True.intro | exact between_fn _ _ _ _ | omega))
    refine V_ret (evs ?_)
    first | exact fe (r := zR) (fin_m1 hc) | exact fe (fin_m2 hc)

/-- imageeditor/rect.Grow -/
theorem grow_fn (r : Rc) (n : Int) : Eng.Fn Try.prog 28 [rcD r, .i n] (.dat (rcD (growR r n))) := by
  refine Eng.Fn.by (fn := Try.f28) 34 [.cell 4 24] Try.func28 rfl Try.ntmps28 rfl (by simp) fun w0 G0 => ?_
  refine WA_seq (x := (fcd Try.f28 [0])) (y := (fcd Try.f28 [1])) ?_
  refine V_regionX Γ Δ [] [0, 1, 2, 4, 6] (evs ?_)
  all_goals (try with_reducible (repeat' (first | apply And.intro | intro _)))
  all_goals (try (first | with_reducible refine wa_id ?_ | exact True.intro | omega))
  refine WA_seq (x := (fcd Try.f28 [1, 0])) (y := (fcd Try.f28 [1, 1])) ?_
  refine WA_seq (x := (fcd Try.f28 [1, 0, 0])) (y := (fcd Try.f28 [1, 0, 1])) ?_
  refine V_regionX Γ Δ [] [0, 1, 2, 4, 6] (evs ?_)
  all_goals (try with_reducible (repeat' (first | apply And.intro | intro _)))
  all_goals (try (first | with_reducible refine wa_id ?_ | exact True.intro | exact empty_fn _ | omega))
  refine V_cond (evs ?_)
  refine ⟨fun hc => ?_, fun hc => ?_⟩
  · refine WA_seq (x := (fcd Try.f28 [1, 0, 1, 0, 0])) (y := (fcd Try.f28 [1, 0, 1, 0, 1])) ?_
    refine V_regionX Γ Δ [] [0, 1, 2, 4, 6] (evs ?_)
    all_goals (try with_reducible (repeat' (first | apply And.intro | intro _)))
    all_goals (try (first | with_reducible refine wa_id ?_ | exact True.intro | omega))
    refine V_ret (evs ?_)
    first | exact fe (r := zR) (fin_zg hc) | exact fe (fin_gr hc)
  · refine WA_skip ?_
    refine WA_seq (x := (fcd Try.f28 [1, 1, 0])) (y := (fcd Try.f28 [1, 1, 1])) ?_
    refine V_regionX Γ Δ [] [0, 1, 2, 4, 6] (evs ?_)
    all_goals (try with_reducible (repeat' (first | apply And.intro | intro _)))
    all_goals (try (first | with_reducible refine wa_id ?_ | exact True.intro | omega))
    refine WA_seq (x := (fcd Try.f28 [1, 1, 1, 0])) (y := (fcd Try.f28 [1, 1, 1, 1])) ?_
    refine V_regionX Γ Δ [] [0, 1, 2, 4, 6] (evs ?_)
    all_goals (try with_reducible (repeat' (first | apply And.intro | intro _)))
    all_goals (try (first | with_reducible refine wa_id ?_ | exact True.intro | exact between_fn _ _ _ _ | omega))
    refine V_ret (evs ?_)
    first | exact fe (r := zR) (fin_zg hc) | exact fe (fin_gr hc)

/-- imageeditor/imageeditorref02.Valid -/
theorem rvalid_fn (r : Rc) : Eng.Fn Try.prog 15 [rcD r] (.dat (.b (validB r))) := by
  refine Eng.Fn.by (fn := Try.f15) 45 [.tmp 2] Try.func15 rfl Try.ntmps15 rfl (by simp) fun w0 G0 => ?_
  refine WA_seq (x := (fcd Try.f15 [0])) (y := (fcd Try.f15 [1])) ?_
  refine V_regionX Γ Δ [] [0, 1, 2, 20] (evs ?_)
  all_goals (try with_reducible (repeat' (first | apply And.intro | intro _)))
  all_goals (try (first | with_reducible refine wa_id ?_ | exact True.intro | omega))
  refine WA_seq (x := (fcd Try.f15 [1, 0])) (y := (fcd Try.f15 [1, 1])) ?_
  refine WA_seq (x := (fcd Try.f15 [1, 0, 0])) (y := (fcd Try.f15 [1, 0, 1])) ?_
  refine V_regionX Γ Δ [] [0, 1, 2, 20] (evs ?_)
  all_goals (try with_reducible (repeat' (first | apply And.intro | intro _)))
  all_goals (try (first | with_reducible refine wa_id ?_ | exact True.intro | omega))
  refine V_cond (evs ?_)
  refine ⟨fun hc => ?_, fun hc => ?_⟩
  · refine WA_seq (x := (fcd Try.f15 [1, 0, 1, 0, 0])) (y := (fcd Try.f15 [1, 0, 1, 0, 1])) ?_
    refine V_regionX Γ Δ [] [0, 1, 2, 20] (evs ?_)
    all_goals (try with_reducible (repeat' (first | apply And.intro | intro _)))
    all_goals (try (first | with_reducible refine wa_id ?_ | exact True.intro | omega))
    refine V_ret (evs ?_)
    all_goals (first | exact fin_rv1 hc | exact fin_rv2 hc)
  · refine WA_skip ?_
    refine WA_seq (x := (fcd Try.f15 [1, 1, 0])) (y := (fcd Try.f15 [1, 1, 1])) ?_
    refine V_regionX Γ Δ [] [0, 1, 2, 20] (evs ?_)
    all_goals (try with_reducible (repeat' (first | apply And.intro | intro _)))
    all_goals (try (first | with_reducible refine wa_id ?_ | exact True.intro | omega))
    refine V_ret (evs ?_)
    all_goals (first | exact fin_rv1 hc | exact fin_rv2 hc)

/-- imageeditor/imageeditorref02.Empty -/
theorem rempty_fn (r : Rc) : Eng.Fn Try.prog 16 [rcD r] (.dat (.b (emptyB r))) := by
  refine Eng.Fn.by (fn := Try.f16) 16 [.tmp 2] Try.func16 rfl Try.ntmps16 rfl (by simp) fun w0 G0 => ?_
  refine WA_seq (x := (fcd Try.f16 [0])) (y := (fcd Try.f16 [1])) ?_
  refine V_regionX Γ Δ [] [0, 1, 2] (evs ?_)
  all_goals (try with_reducible (repeat' (first | apply And.intro | intro _)))
  all_goals (try (first | with_reducible refine wa_id ?_ | exact True.intro | omega))
  refine WA_seq (x := (fcd Try.f16 [1, 0])) (y := (fcd Try.f16 [1, 1])) ?_
  refine V_regionX Γ Δ [] [0, 1, 2] (evs ?_)
  all_goals (try with_reducible (repeat' (first | apply And.intro | intro _)))
  all_goals (try (first | with_reducible refine wa_id ?_ | exact True.intro | exact rvalid_fn _ | omega))
  refine V_ret (evs ?_)
  rfl

/-- imageeditor/imageeditorref02.span -/
theorem rspan_fn (r : Rc) (n : Int) : Eng.Fn Try.prog 36 [rcD r, .i n] (.tup [.dat (.i (spanS r n)), .dat (.i (spanE r n))]) := by
  refine Eng.Fn.by (fn := Try.f36) 37 [.tmp 4, .tmp 5] Try.func36 rfl Try.ntmps36 rfl (by simp) fun w0 G0 => ?_
  refine WA_seq (x := (fcd Try.f36 [0])) (y := (fcd Try.f36 [1])) ?_
  refine V_regionX Γ Δ [] [0, 1, 2, 4, 5, 18, 20] (evs ?_)
  all_goals (try with_reducible (repeat' (first | apply And.intro | intro _)))
  all_goals (try (first | with_reducible refine wa_id ?_ | exact True.intro | omega))
  refine WA_seq (x := (fcd Try.f36 [1, 0])) (y := (fcd Try.f36 [1, 1])) ?_
  refine WA_seq (x := (fcd Try.f36 [1, 0, 0])) (y := (fcd Try.f36 [1, 0, 1])) ?_
  refine V_regionX Γ Δ [] [0, 1, 2, 4, 5, 18, 20] (evs ?_)
  all_goals (try with_reducible (repeat' (first | apply And.intro | intro _)))
  all_goals (try (first | with_reducible refine wa_id ?_ | exact True.intro | exact rvalid_fn _ | omega))
  refine V_cond (evs ?_)
  refine ⟨fun hc => ?_, fun hc => ?_⟩
  · refine WA_seq (x := (fcd Try.f36 [1, 0, 1, 0, 0])) (y := (fcd Try.f36 [1, 0, 1, 0, 1])) ?_
    refine V_regionX Γ Δ [] [0, 1, 2, 4, 5, 18, 20] (evs ?_)
    all_goals (try with_reducible (repeat' (first | apply And.intro | intro _)))
    all_goals (try (first | with_reducible refine wa_id ?_ | exact True.intro | omega))
    refine V_ret (evs ?_)
    first | exact fin_sp1 hc | exact fin_sp2 ‹_› hc | exact fin_sp3 ‹_› hc
  · refine WA_skip ?_
    refine WA_seq (x := (fcd Try.f36 [1, 1, 0])) (y := (fcd Try.f36 [1, 1, 1])) ?_
    refine WA_seq (x := (fcd Try.f36 [1, 1, 0, 0])) (y := (fcd Try.f36 [1, 1, 0, 1])) ?_
    refine V_regionX Γ Δ [] [0, 1, 2, 4, 5, 18, 20] (evs ?_)
    all_goals (try with_reducible (repeat' (first | apply And.intro | intro _)))
    all_goals (try (first | with_reducible refine wa_id ?_ | exact True.intro | omega))
    refine V_cond (evs ?_)
    refine ⟨fun hc => ?_, fun hc => ?_⟩
    · refine WA_seq (x := (fcd Try.f36 [1, 1, 0, 1, 0, 0])) (y := (fcd Try.f36 [1, 1, 0, 1, 0, 1])) ?_
      refine V_draw Γ [] [0, 1, 2, 4, 5, 18, 20] mixed (by kernel_rfl) (evs ?_)
      all_goals (try with_reducible (repeat' (first | apply And.intro | intro _)))
      all_goals (try (first | with_reducible refine wa_id ?_ | exact True.intro | omega))
      refine V_ret (evs ?_)
      first | exact fin_sp1 hc | exact fin_sp2 ‹_› hc | exact fin_sp3 ‹_› hc
    · refine WA_skip ?_
      refine WA_seq (x := (fcd Try.f36 [1, 1, 1, 0])) (y := (fcd Try.f36 [1, 1, 1, 1])) ?_
      refine V_draw Γ [] [0, 1, 2, 4, 5, 18, 20] mixed (by kernel_rfl) (evs ?_)
      all_goals (try with_reducible (repeat' (first | apply And.intro | intro _)))
      all_goals (try (first | with_reducible refine wa_id ?_ | exact True.intro | omega))
      refine V_ret (evs ?_)
      first | exact fin_sp1 hc | exact fin_sp2 ‹_› hc | exact fin_sp3 ‹_› hc

/-- imageeditor/imageeditorref02.Has -/
theorem rhas_fn (r : Rc) (p : Pt) : Eng.Fn Try.prog 37 [rcD r, ptD p] (.dat (.b (hasB r p))) := by
  refine Eng.Fn.by (fn := Try.f37) 41 [.tmp 4] Try.func37 rfl Try.ntmps37 rfl (by simp) fun w0 G0 => ?_
  refine WA_seq (x := (fcd Try.f37 [0])) (y := (fcd Try.f37 [1])) ?_
  refine V_regionX Γ Δ [] [0, 1, 2, 3, 4, 5, 6, 7, 8] (evs ?_)
  all_goals (try with_reducible (repeat' (first | apply And.intro | intro _)))
  all_goals (try (first | with_reducible refine wa_id ?_ | exact True.intro | omega))
  refine WA_seq (x := (fcd Try.f37 [1, 0])) (y := (fcd Try.f37 [1, 1])) ?_
  refine V_regionX Γ Δ [] [0, 1, 2, 3, 4, 5, 6, 7, 8] (evs ?_)
  all_goals (try with_reducible (repeat' (first | apply And.intro | intro _)))
  all_goals (try (first | with_reducible refine wa_id ?_ | exact True.intro | exact rspan_fn _ _ | omega))
  refine WA_seq (x := (fcd Try.f37 [1, 1, 0])) (y := (fcd Try.f37 [1, 1, 1])) ?_
  refine V_regionX Γ Δ [] [0, 1, 2, 3, 4, 5, 6, 7, 8] (evs ?_)
  all_goals (try with_reducible (repeat' (first | apply And.intro | intro _)))
  all_goals (try (first | with_reducible refine wa_id ?_ | exact True.intro | exact rspan_fn _ _ | omega))
  refine WA_seq (x := (fcd Try.f37 [1, 1, 1, 0])) (y := (fcd Try.f37 [1, 1, 1, 1])) ?_
  refine V_regionX Γ Δ [] [0, 1, 2, 3, 4, 5, 6, 7, 8] (evs ?_)
  all_goals (try with_reducible (repeat' (first | apply And.intro | intro _)))
  all_goals (try (first | with_reducible refine wa_id ?_ | exact True.intro | omega))
  refine V_ret (evs ?_)
  exact fin_rhas

/-- imageeditor/imageeditorref02.of -/
theorem of_fn (x0 x1 y0 y1 : Int) (h1 : -4611686018427387904 ≤ x0) (h2 : x1 ≤ 4611686018427387900) (h3 : -4611686018427387904 ≤ y0) (h4 : y1 ≤ 4611686018427387900) : Eng.Fn Try.prog 45 [.i x0, .i x1, .i y0, .i y1] (.dat (rcD (ofR x0 x1 y0 y1))) := by
  refine Eng.Fn.by (fn := Try.f45) 29 [.cell 8 24] Try.func45 rfl Try.ntmps45 rfl (by simp) fun w0 G0 => ?_
  refine WA_seq (x := (fcd Try.f45 [0])) (y := (fcd Try.f45 [1])) ?_
  refine V_regionX Γ Δ [] [0, 1, 2, 3, 8, 16] (evs ?_)
  all_goals (try with_reducible (repeat' (first | apply And.intro | intro _)))
  all_goals (try (first | with_reducible refine wa_id ?_ | exact True.intro | omega))
  refine WA_seq (x := (fcd Try.f45 [1, 0])) (y := (fcd Try.f45 [1, 1])) ?_
  refine WA_seq (x := (fcd Try.f45 [1, 0, 0])) (y := (fcd Try.f45 [1, 0, 1])) ?_
  refine V_regionX Γ Δ [] [0, 1, 2, 3, 8, 16] (evs ?_)
  all_goals (try with_reducible (repeat' (first | apply And.intro | intro _)))
  all_goals (try (first | with_reducible refine wa_id ?_ | exact True.intro | omega))
  refine V_cond (evs ?_)
  refine ⟨fun hc => ?_, fun hc => ?_⟩
  · refine WA_seq (x := (fcd Try.f45 [1, 0, 1, 0, 0])) (y := (fcd Try.f45 [1, 0, 1, 0, 1])) ?_
    refine V_regionX Γ Δ [] [0, 1, 2, 3, 8, 16] (evs ?_)
    all_goals (try with_reducible (repeat' (first | apply And.intro | intro _)))
    all_goals (try (first | with_reducible refine wa_id ?_ | exact True.intro | omega))
    refine V_ret (evs ?_)
    first | exact fe (r := zR) (fin_o1 hc) | exact fe (fin_o2 h1 h2 h3 h4 hc)
  · refine WA_skip ?_
    refine WA_seq (x := (fcd Try.f45 [1, 1, 0])) (y := (fcd Try.f45 [1, 1, 1])) ?_
    refine V_regionX Γ Δ [] [0, 1, 2, 3, 8, 16] (evs ?_)
    all_goals (try with_reducible (repeat' (first | apply And.intro | intro _)))
    all_goals (try (first | with_reducible refine wa_id ?_ | exact True.intro | omega))
    refine V_ret (evs ?_)
    first | exact fe (r := zR) (fin_o1 hc) | exact fe (fin_o2 h1 h2 h3 h4 hc)

/-- imageeditor/imageeditorref02.world -/
theorem world_fn (x0 x1 y0 y1 : Int) : Eng.Fn Try.prog 47 [.i x0, .i x1, .i y0, .i y1] (.dat (rcD (worldR x0 x1 y0 y1))) := by
  refine Eng.Fn.by (fn := Try.f47) 18 [.cell 8 24] Try.func47 rfl Try.ntmps47 rfl (by simp) fun w0 G0 => ?_
  refine WA_seq (x := (fcd Try.f47 [0])) (y := (fcd Try.f47 [1])) ?_
  refine V_regionX Γ Δ [] [0, 1, 2, 3, 8] (evs ?_)
  all_goals (try with_reducible (repeat' (first | apply And.intro | intro _)))
  all_goals (try (first | with_reducible refine wa_id ?_ | exact True.intro | omega))
  refine WA_seq (x := (fcd Try.f47 [1, 0])) (y := (fcd Try.f47 [1, 1])) ?_
  refine V_regionX Γ Δ [] [0, 1, 2, 3, 8] (evs ?_)
  all_goals (try with_reducible (repeat' (first | apply And.intro | intro _)))
  all_goals (try (first | with_reducible refine wa_id ?_ | exact True.intro | exact of_fn _ _ _ _ (by omega) (by omega) (by omega) (by omega) | omega))
  refine V_ret (evs ?_)
  exact fe rfl

/-- imageeditor/imageeditorref02.limit -/
theorem limit_fn (n : Int) : Eng.Fn Try.prog 46 [.i n] (.dat (.i (lim3 n))) := by
  refine Eng.Fn.by (fn := Try.f46) 6 [.tmp 2] Try.func46 rfl Try.ntmps46 rfl (by simp) fun w0 G0 => ?_
  refine WA_seq (x := (fcd Try.f46 [0])) (y := (fcd Try.f46 [1])) ?_
  refine V_regionX Γ Δ [] [0, 2] (evs ?_)
  all_goals (try with_reducible (repeat' (first | apply And.intro | intro _)))
  all_goals (try (first | with_reducible refine wa_id ?_ | exact True.intro | omega))
  refine WA_seq (x := (fcd Try.f46 [1, 0])) (y := (fcd Try.f46 [1, 1])) ?_
  refine V_regionX Γ Δ [] [0, 2] (evs ?_)
  all_goals (try with_reducible (repeat' (first | apply And.intro | intro _)))
  all_goals (try (first | with_reducible refine wa_id ?_ | exact True.intro | omega))
  refine V_ret (evs ?_)
  rfl

/-- imageeditor/imageeditorref02.Within -/
theorem rwithin_fn (a b : Rc) : Eng.Fn Try.prog 17 [rcD a, rcD b] (.dat (.b (withinB a b))) := by
  refine Eng.Fn.by (fn := Try.f17) 33 [.tmp 4] Try.func17 rfl Try.ntmps17 rfl (by simp) fun w0 G0 => ?_
  refine WA_seq (x := (fcd Try.f17 [0])) (y := (fcd Try.f17 [1])) ?_
  refine V_regionX Γ Δ [] [0, 1, 2, 3, 4, 5, 6, 7, 8, 10] (evs ?_)
  all_goals (try with_reducible (repeat' (first | apply And.intro | intro _)))
  all_goals (try (first | with_reducible refine wa_id ?_ | exact True.intro | omega | exact rhas_fn _ ⟨_, _⟩))
  refine WA_seq (x := (fcd Try.f17 [1, 0])) (y := (fcd Try.f17 [1, 1])) ?_
  refine WA_seq (x := (fcd Try.f17 [1, 0, 0])) (y := (fcd Try.f17 [1, 0, 1])) ?_
  refine V_regionX Γ Δ [] [0, 1, 2, 3, 4, 5, 6, 7, 8, 10] (evs ?_)
  all_goals (try with_reducible (repeat' (first | apply And.intro | intro _)))
  all_goals (try (first | with_reducible refine wa_id ?_ | exact True.intro | exact rempty_fn _ | omega | exact rhas_fn _ ⟨_, _⟩))
  refine V_cond (evs ?_)
  refine ⟨fun hc => ?_, fun hc => ?_⟩
  · refine WA_seq (x := (fcd Try.f17 [1, 0, 1, 0, 0])) (y := (fcd Try.f17 [1, 0, 1, 0, 1])) ?_
    refine V_regionX Γ Δ [] [0, 1, 2, 3, 4, 5, 6, 7, 8, 10] (evs ?_)
    all_goals (try with_reducible (repeat' (first | apply And.intro | intro _)))
    all_goals (try (first | with_reducible refine wa_id ?_ | exact True.intro | omega | exact rhas_fn _ ⟨_, _⟩))
    refine V_ret (evs ?_)
    first | exact fin_w1 hc | exact fin_rw ‹_›
  · refine WA_skip ?_
    refine WA_seq (x := (fcd Try.f17 [1, 1, 0])) (y := (fcd Try.f17 [1, 1, 1])) ?_
    refine V_regionX Γ Δ [] [0, 1, 2, 3, 4, 5, 6, 7, 8, 10] (evs ?_)
    all_goals (try with_reducible (repeat' (first | apply And.intro | intro _)))
    all_goals (try (first | with_reducible refine wa_id ?_ | exact True.intro | exact rspan_fn _ _ | omega | exact rhas_fn _ ⟨_, _⟩))
    refine WA_seq (x := (fcd Try.f17 [1, 1, 1, 0])) (y := (fcd Try.f17 [1, 1, 1, 1])) ?_
    refine V_regionX Γ Δ [] [0, 1, 2, 3, 4, 5, 6, 7, 8, 10] (evs ?_)
    all_goals (try with_reducible (repeat' (first | apply And.intro | intro _)))
    all_goals (try (first | with_reducible refine wa_id ?_ | exact True.intro | exact rspan_fn _ _ | omega | exact rhas_fn _ ⟨_, _⟩))
    refine WA_seq (x := (fcd Try.f17 [1, 1, 1, 1, 0])) (y := (fcd Try.f17 [1, 1, 1, 1, 1])) ?_
    refine V_regionX Γ Δ [] [0, 1, 2, 3, 4, 5, 6, 7, 8, 10] (evs ?_)
    all_goals (try with_reducible (repeat' (first | apply And.intro | intro _)))
    all_goals (try (first | with_reducible refine wa_id ?_ | exact True.intro | exact rhas_fn _ ⟨_, _⟩ | omega | exact rhas_fn _ ⟨_, _⟩))
    refine V_ret (evs ?_)
    first | exact fin_w1 hc | exact fin_rw ‹_›

set_option maxRecDepth 100000 in
/-- imageeditor/imageeditorref02.Meet -/
theorem rmeet_fn (a b : Rc) : Eng.Fn Try.prog 29 [rcD a, rcD b] (.dat (rcD (meetR a b))) := by
  refine Eng.Fn.by (fn := Try.f29) 53 [.cell 4 24] Try.func29 rfl Try.ntmps29 rfl (by simp) fun w0 G0 => ?_
  refine WA_seq (x := (fcd Try.f29 [0])) (y := (fcd Try.f29 [1])) ?_
  refine V_regionX Γ Δ [] [0, 1, 2, 3, 4, 5, 6, 7, 8, 9, 10, 11, 12, 18] (evs ?_)
  all_goals (try with_reducible (repeat' (first | apply And.intro | intro _)))
  all_goals (try (first | with_reducible refine wa_id ?_ | exact True.intro | omega | (have := sp_bd a 0; have := sp_bd a 1; have := sp_bd b 0; have := sp_bd b 1; exact of_fn _ _ _ _ (by omega) (by omega) (by omega) (by omega))))
  refine WA_seq (x := (fcd Try.f29 [1, 0])) (y := (fcd Try.f29 [1, 1])) ?_
  refine WA_seq (x := (fcd Try.f29 [1, 0, 0])) (y := (fcd Try.f29 [1, 0, 1])) ?_
  refine V_regionX Γ Δ [] [0, 1, 2, 3, 4, 5, 6, 7, 8, 9, 10, 11, 12, 18] (evs ?_)
  all_goals (try with_reducible (repeat' (first | apply And.intro | intro _)))
  all_goals (try (first | with_reducible refine wa_id ?_ | exact True.intro | exact rempty_fn _ | omega | (have := sp_bd a 0; have := sp_bd a 1; have := sp_bd b 0; have := sp_bd b 1; exact of_fn _ _ _ _ (by omega) (by omega) (by omega) (by omega))))
  refine V_cond (evs ?_)
  refine ⟨fun hc => ?_, fun hc => ?_⟩
  · refine WA_seq (x := (fcd Try.f29 [1, 0, 1, 0, 0])) (y := (fcd Try.f29 [1, 0, 1, 0, 1])) ?_
    refine V_regionX Γ Δ [] [0, 1, 2, 3, 4, 5, 6, 7, 8, 9, 10, 11, 12, 18] (evs ?_)
    all_goals (try with_reducible (repeat' (first | apply And.intro | intro _)))
    all_goals (try (first | with_reducible refine wa_id ?_ | exact True.intro | omega | (have := sp_bd a 0; have := sp_bd a 1; have := sp_bd b 0; have := sp_bd b 1; exact of_fn _ _ _ _ (by omega) (by omega) (by omega) (by omega))))
    refine V_ret (evs ?_)
    first | exact fe (r := zR) (fin_m1 hc) | exact fe (fin_m3 hc)
  · refine WA_skip ?_
    refine WA_seq (x := (fcd Try.f29 [1, 1, 0])) (y := (fcd Try.f29 [1, 1, 1])) ?_
    refine V_regionX Γ Δ [] [0, 1, 2, 3, 4, 5, 6, 7, 8, 9, 10, 11, 12, 18] (evs ?_)
    all_goals (try with_reducible (repeat' (first | apply And.intro | intro _)))
    all_goals (try (first | with_reducible refine wa_id ?_ | exact True.intro | exact rspan_fn _ _ | omega | (have := sp_bd a 0; have := sp_bd a 1; have := sp_bd b 0; have := sp_bd b 1; exact of_fn _ _ _ _ (by omega) (by omega) (by omega) (by omega))))
    refine WA_seq (x := (fcd Try.f29 [1, 1, 1, 0])) (y := (fcd Try.f29 [1, 1, 1, 1])) ?_
    refine V_regionX Γ Δ [] [0, 1, 2, 3, 4, 5, 6, 7, 8, 9, 10, 11, 12, 18] (evs ?_)
    all_goals (try with_reducible (repeat' (first | apply And.intro | intro _)))
    all_goals (try (first | with_reducible refine wa_id ?_ | exact True.intro | exact rspan_fn _ _ | omega | (have := sp_bd a 0; have := sp_bd a 1; have := sp_bd b 0; have := sp_bd b 1; exact of_fn _ _ _ _ (by omega) (by omega) (by omega) (by omega))))
    refine WA_seq (x := (fcd Try.f29 [1, 1, 1, 1, 0])) (y := (fcd Try.f29 [1, 1, 1, 1, 1])) ?_
    refine V_regionX Γ Δ [] [0, 1, 2, 3, 4, 5, 6, 7, 8, 9, 10, 11, 12, 18] (evs ?_)
    all_goals (try with_reducible (repeat' (first | apply And.intro | intro _)))
    all_goals (try (first | with_reducible refine wa_id ?_ | exact True.intro | exact rspan_fn _ _ | omega | (have := sp_bd a 0; have := sp_bd a 1; have := sp_bd b 0; have := sp_bd b 1; exact of_fn _ _ _ _ (by omega) (by omega) (by omega) (by omega))))
    refine WA_seq (x := (fcd Try.f29 [1, 1, 1, 1, 1, 0])) (y := (fcd Try.f29 [1, 1, 1, 1, 1, 1])) ?_
    refine V_regionX Γ Δ [] [0, 1, 2, 3, 4, 5, 6, 7, 8, 9, 10, 11, 12, 18] (evs ?_)
    all_goals (try with_reducible (repeat' (first | apply And.intro | intro _)))
    all_goals (try (first | with_reducible refine wa_id ?_ | exact True.intro | exact rspan_fn _ _ | omega | (have := sp_bd a 0; have := sp_bd a 1; have := sp_bd b 0; have := sp_bd b 1; exact of_fn _ _ _ _ (by omega) (by omega) (by omega) (by omega))))
    refine WA_seq (x := (fcd Try.f29 [1, 1, 1, 1, 1, 1, 0])) (y := (fcd Try.f29 [1, 1, 1, 1, 1, 1, 1])) ?_
    refine V_regionX Γ Δ [] [0, 1, 2, 3, 4, 5, 6, 7, 8, 9, 10, 11, 12, 18] (evs ?_)
    all_goals (try with_reducible (repeat' (first | apply And.intro | intro _)))
    all_goals (try (first | with_reducible refine wa_id ?_ | exact True.intro | exact of_fn _ _ _ _ (by omega) (by omega) (by omega) (by omega) | omega | (have := sp_bd a 0; have := sp_bd a 1; have := sp_bd b 0; have := sp_bd b 1; exact of_fn _ _ _ _ (by omega) (by omega) (by omega) (by omega))))
    refine V_ret (evs ?_)
    first | exact fe (r := zR) (fin_m1 hc) | exact fe (fin_m3 hc)

/-- imageeditor/imageeditorref02.Grow -/
theorem rgrow_fn (r : Rc) (n : Int) : Eng.Fn Try.prog 30 [rcD r, .i n] (.dat (rcD (growR r n))) := by
  refine Eng.Fn.by (fn := Try.f30) 38 [.cell 4 24] Try.func30 rfl Try.ntmps30 rfl (by simp) fun w0 G0 => ?_
  refine WA_seq (x := (fcd Try.f30 [0])) (y := (fcd Try.f30 [1])) ?_
  refine V_regionX Γ Δ [] [0, 1, 2, 4, 5, 6, 7, 8, 9, 11] (evs ?_)
  all_goals (try with_reducible (repeat' (first | apply And.intro | intro _)))
  all_goals (try (first | with_reducible refine wa_id ?_ | exact True.intro | omega))
  refine WA_seq (x := (fcd Try.f30 [1, 0])) (y := (fcd Try.f30 [1, 1])) ?_
  refine WA_seq (x := (fcd Try.f30 [1, 0, 0])) (y := (fcd Try.f30 [1, 0, 1])) ?_
  refine V_regionX Γ Δ [] [0, 1, 2, 4, 5, 6, 7, 8, 9, 11] (evs ?_)
  all_goals (try with_reducible (repeat' (first | apply And.intro | intro _)))
  all_goals (try (first | with_reducible refine wa_id ?_ | exact True.intro | exact rempty_fn _ | omega))
  refine V_cond (evs ?_)
  refine ⟨fun hc => ?_, fun hc => ?_⟩
  · refine WA_seq (x := (fcd Try.f30 [1, 0, 1, 0, 0])) (y := (fcd Try.f30 [1, 0, 1, 0, 1])) ?_
    refine V_regionX Γ Δ [] [0, 1, 2, 4, 5, 6, 7, 8, 9, 11] (evs ?_)
    all_goals (try with_reducible (repeat' (first | apply And.intro | intro _)))
    all_goals (try (first | with_reducible refine wa_id ?_ | exact True.intro | omega))
    refine V_ret (evs ?_)
    first | exact fe (r := zR) (fin_zg hc) | exact fe (fin_rgr hc)
  · refine WA_skip ?_
    refine WA_seq (x := (fcd Try.f30 [1, 1, 0])) (y := (fcd Try.f30 [1, 1, 1])) ?_
    refine V_regionX Γ Δ [] [0, 1, 2, 4, 5, 6, 7, 8, 9, 11] (evs ?_)
    all_goals (try with_reducible (repeat' (first | apply And.intro | intro _)))
    all_goals (try (first | with_reducible refine wa_id ?_ | exact True.intro | exact rspan_fn _ _ | omega))
    refine WA_seq (x := (fcd Try.f30 [1, 1, 1, 0])) (y := (fcd Try.f30 [1, 1, 1, 1])) ?_
    refine V_regionX Γ Δ [] [0, 1, 2, 4, 5, 6, 7, 8, 9, 11] (evs ?_)
    all_goals (try with_reducible (repeat' (first | apply And.intro | intro _)))
    all_goals (try (first | with_reducible refine wa_id ?_ | exact True.intro | exact rspan_fn _ _ | omega))
    refine WA_seq (x := (fcd Try.f30 [1, 1, 1, 1, 0])) (y := (fcd Try.f30 [1, 1, 1, 1, 1])) ?_
    refine V_regionX Γ Δ [] [0, 1, 2, 4, 5, 6, 7, 8, 9, 11] (evs ?_)
    all_goals (try with_reducible (repeat' (first | apply And.intro | intro _)))
    all_goals (try (first | with_reducible refine wa_id ?_ | exact True.intro | exact limit_fn _ | omega))
    refine WA_seq (x := (fcd Try.f30 [1, 1, 1, 1, 1, 0])) (y := (fcd Try.f30 [1, 1, 1, 1, 1, 1])) ?_
    refine V_regionX Γ Δ [] [0, 1, 2, 4, 5, 6, 7, 8, 9, 11] (evs ?_)
    all_goals (try with_reducible (repeat' (first | apply And.intro | intro _)))
    all_goals (try (first | with_reducible refine wa_id ?_ | exact True.intro | exact world_fn _ _ _ _ | omega))
    refine V_ret (evs ?_)
    first | exact fe (r := zR) (fin_zg hc) | exact fe (fin_rgr hc)

end Go.S16

