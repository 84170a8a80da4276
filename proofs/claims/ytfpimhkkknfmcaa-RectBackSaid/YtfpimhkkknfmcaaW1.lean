import Derived.Test.YtfpimhkkknfmcaaRectF
import Derived.Test.YtfpimhkkknfmcaaLA
set_option linter.unusedSimpArgs false
set_option linter.unusedVariables false
namespace Go.Rect
open Go.RowKit Go.Proofs Go.Eng
/-- imageeditor/rect.span -/
theorem span_fn (x w : Int) : Eng.Fn Try.prog 39 [.i x, .i w] (.dat (.b (spanB x w))) := by
  refine Eng.Fn.by (fn := Try.f39) 21 [.tmp 4] Try.func39 rfl Try.ntmps39 rfl (by simp) fun w0 => ?_
  refine WA_seq (x := (fcd Try.f39 [0])) (y := (fcd Try.f39 [1])) ?_
  refine V_regionX Γ Δ [] [0, 1, 4] (evs ?_)
  all_goals (try with_reducible (repeat' (first | apply And.intro | intro _)))
  all_goals (try (first | with_reducible refine wa_id ?_ | exact True.intro | omega))
  refine WA_seq (x := (fcd Try.f39 [1, 0])) (y := (fcd Try.f39 [1, 1])) ?_
  refine V_regionX Γ Δ [] [0, 1, 4] (evs ?_)
  all_goals (try with_reducible (repeat' (first | apply And.intro | intro _)))
  all_goals (try (first | with_reducible refine wa_id ?_ | exact True.intro | omega))
  refine V_ret (evs ?_)
  rw [Bool.eq_iff_iff]; simp only [spanB, Bool.and_eq_true, decide_eq_true_eq]
  constructor
  all_goals (intro ⟨⟨⟨h1, h2⟩, h3⟩, h4⟩; rw [w64 (by omega) (by omega)] at *; exact ⟨⟨⟨h1, h2⟩, h3⟩, h4⟩)

/-- imageeditor/rect.Valid -/
theorem valid_fn (r : Rc) : Eng.Fn Try.prog 13 [rcD r] (.dat (.b (validB r))) := by
  refine Eng.Fn.by (fn := Try.f13) 15 [.tmp 2] Try.func13 rfl Try.ntmps13 rfl (by simp) fun w0 => ?_
  refine WA_seq (x := (fcd Try.f13 [0])) (y := (fcd Try.f13 [1])) ?_
  refine V_regionX Γ Δ [] [0, 1, 2] (evs ?_)
  all_goals (try with_reducible (repeat' (first | apply And.intro | intro _)))
  all_goals (try (first | with_reducible refine wa_id ?_ | exact True.intro | omega))
  refine WA_seq (x := (fcd Try.f13 [1, 0])) (y := (fcd Try.f13 [1, 1])) ?_
  refine V_regionX Γ Δ [] [0, 1, 2] (evs ?_)
  all_goals (try with_reducible (repeat' (first | apply And.intro | intro _)))
  all_goals (try (first | with_reducible refine wa_id ?_ | exact True.intro | exact span_fn _ _ | omega))
  refine V_ret (evs ?_)
  rfl

/-- imageeditor/rect.Empty -/
theorem empty_fn (r : Rc) : Eng.Fn Try.prog 15 [rcD r] (.dat (.b (emptyB r))) := by
  refine Eng.Fn.by (fn := Try.f15) 16 [.tmp 2] Try.func15 rfl Try.ntmps15 rfl (by simp) fun w0 => ?_
  refine WA_seq (x := (fcd Try.f15 [0])) (y := (fcd Try.f15 [1])) ?_
  refine V_regionX Γ Δ [] [0, 1, 2] (evs ?_)
  all_goals (try with_reducible (repeat' (first | apply And.intro | intro _)))
  all_goals (try (first | with_reducible refine wa_id ?_ | exact True.intro | omega))
  refine WA_seq (x := (fcd Try.f15 [1, 0])) (y := (fcd Try.f15 [1, 1])) ?_
  refine V_regionX Γ Δ [] [0, 1, 2] (evs ?_)
  all_goals (try with_reducible (repeat' (first | apply And.intro | intro _)))
  all_goals (try (first | with_reducible refine wa_id ?_ | exact True.intro | exact valid_fn _ | omega))
  refine V_ret (evs ?_)
  rfl

/-- imageeditor/imageeditorref02.Valid -/
theorem rvalid_fn (r : Rc) : Eng.Fn Try.prog 14 [rcD r] (.dat (.b (validB r))) := by
  refine Eng.Fn.by (fn := Try.f14) 45 [.tmp 2] Try.func14 rfl Try.ntmps14 rfl (by simp) fun w0 => ?_
  refine WA_seq (x := (fcd Try.f14 [0])) (y := (fcd Try.f14 [1])) ?_
  refine V_regionX Γ Δ [] [0, 1, 2, 20] (evs ?_)
  all_goals (try with_reducible (repeat' (first | apply And.intro | intro _)))
  all_goals (try (first | with_reducible refine wa_id ?_ | exact True.intro | omega))
  refine WA_seq (x := (fcd Try.f14 [1, 0])) (y := (fcd Try.f14 [1, 1])) ?_
  refine WA_seq (x := (fcd Try.f14 [1, 0, 0])) (y := (fcd Try.f14 [1, 0, 1])) ?_
  refine V_regionX Γ Δ [] [0, 1, 2, 20] (evs ?_)
  all_goals (try with_reducible (repeat' (first | apply And.intro | intro _)))
  all_goals (try (first | with_reducible refine wa_id ?_ | exact True.intro | omega))
  refine V_cond (evs ?_)
  refine ⟨fun hc => ?_, fun hc => ?_⟩
  · refine WA_seq (x := (fcd Try.f14 [1, 0, 1, 0, 0])) (y := (fcd Try.f14 [1, 0, 1, 0, 1])) ?_
    refine V_regionX Γ Δ [] [0, 1, 2, 20] (evs ?_)
    all_goals (try with_reducible (repeat' (first | apply And.intro | intro _)))
    all_goals (try (first | with_reducible refine wa_id ?_ | exact True.intro | omega))
    refine V_ret (evs ?_)
    all_goals (first | exact fin_rv1 hc | exact fin_rv2 hc)
  · refine WA_skip ?_
    refine WA_seq (x := (fcd Try.f14 [1, 1, 0])) (y := (fcd Try.f14 [1, 1, 1])) ?_
    refine V_regionX Γ Δ [] [0, 1, 2, 20] (evs ?_)
    all_goals (try with_reducible (repeat' (first | apply And.intro | intro _)))
    all_goals (try (first | with_reducible refine wa_id ?_ | exact True.intro | omega))
    refine V_ret (evs ?_)
    all_goals (first | exact fin_rv1 hc | exact fin_rv2 hc)

/-- imageeditor/imageeditorref02.Empty -/
theorem rempty_fn (r : Rc) : Eng.Fn Try.prog 16 [rcD r] (.dat (.b (emptyB r))) := by
  refine Eng.Fn.by (fn := Try.f16) 16 [.tmp 2] Try.func16 rfl Try.ntmps16 rfl (by simp) fun w0 => ?_
  refine WA_seq (x := (fcd Try.f16 [0])) (y := (fcd Try.f16 [1])) ?_
  refine V_regionX Γ Δ [] [0, 1, 2] (evs ?_)
  all_goals (try with_reducible (repeat' (first | apply And.intro | intro _)))
  all_goals (try (first | with_reducible refine wa_id ?_ | exact True.intro | omega))
  refine WA_seq (x := (fcd Try.f16 [1, 0])) (y := (fcd Try.f16 [1, 1])) ?_
  refine V_regionX Γ Δ [] [0, 1, 2] (evs ?_)
  all_goals (try with_reducible (repeat' (first | apply And.intro | intro _)))
  all_goals (try (first | with_reducible refine wa_id ?_ | exact True.intro | exact rvalid_fn _ | omega))
  refine V_ret (evs ?_)
  rfl

/-- imageeditor/rect.Has -/
theorem has_fn (r : Rc) (p : Pt) : Eng.Fn Try.prog 17 [rcD r, ptD p] (.dat (.b (hasB r p))) := by
  refine Eng.Fn.by (fn := Try.f17) 41 [.tmp 4] Try.func17 rfl Try.ntmps17 rfl (by simp) fun w0 => ?_
  refine WA_seq (x := (fcd Try.f17 [0])) (y := (fcd Try.f17 [1])) ?_
  refine V_regionX Γ Δ [] [0, 1, 2, 3, 4] (evs ?_)
  all_goals (try with_reducible (repeat' (first | apply And.intro | intro _)))
  all_goals (try (first | with_reducible refine wa_id ?_ | exact True.intro | omega))
  refine WA_seq (x := (fcd Try.f17 [1, 0])) (y := (fcd Try.f17 [1, 1])) ?_
  refine V_regionX Γ Δ [] [0, 1, 2, 3, 4] (evs ?_)
  all_goals (try with_reducible (repeat' (first | apply And.intro | intro _)))
  all_goals (try (first | with_reducible refine wa_id ?_ | exact True.intro | exact valid_fn _ | omega))
  refine V_ret (evs ?_)
  exact fin_has

/-- imageeditor/imageeditorref02.span -/
theorem rspan_fn (r : Rc) (n : Int) : Eng.Fn Try.prog 40 [rcD r, .i n] (.tup [.dat (.i (spanS r n)), .dat (.i (spanE r n))]) := by
  refine Eng.Fn.by (fn := Try.f40) 37 [.tmp 4, .tmp 5] Try.func40 rfl Try.ntmps40 rfl (by simp) fun w0 => ?_
  refine WA_seq (x := (fcd Try.f40 [0])) (y := (fcd Try.f40 [1])) ?_
  refine V_regionX Γ Δ [] [0, 1, 2, 4, 5, 18, 20] (evs ?_)
  all_goals (try with_reducible (repeat' (first | apply And.intro | intro _)))
  all_goals (try (first | with_reducible refine wa_id ?_ | exact True.intro | omega))
  refine WA_seq (x := (fcd Try.f40 [1, 0])) (y := (fcd Try.f40 [1, 1])) ?_
  refine WA_seq (x := (fcd Try.f40 [1, 0, 0])) (y := (fcd Try.f40 [1, 0, 1])) ?_
  refine V_regionX Γ Δ [] [0, 1, 2, 4, 5, 18, 20] (evs ?_)
  all_goals (try with_reducible (repeat' (first | apply And.intro | intro _)))
  all_goals (try (first | with_reducible refine wa_id ?_ | exact True.intro | exact rvalid_fn _ | omega))
  refine V_cond (evs ?_)
  refine ⟨fun hc => ?_, fun hc => ?_⟩
  · refine WA_seq (x := (fcd Try.f40 [1, 0, 1, 0, 0])) (y := (fcd Try.f40 [1, 0, 1, 0, 1])) ?_
    refine V_regionX Γ Δ [] [0, 1, 2, 4, 5, 18, 20] (evs ?_)
    all_goals (try with_reducible (repeat' (first | apply And.intro | intro _)))
    all_goals (try (first | with_reducible refine wa_id ?_ | exact True.intro | omega))
    refine V_ret (evs ?_)
    first | exact fin_sp1 hc | exact fin_sp2 ‹_› hc | exact fin_sp3 ‹_› hc
  · refine WA_skip ?_
    refine WA_seq (x := (fcd Try.f40 [1, 1, 0])) (y := (fcd Try.f40 [1, 1, 1])) ?_
    refine WA_seq (x := (fcd Try.f40 [1, 1, 0, 0])) (y := (fcd Try.f40 [1, 1, 0, 1])) ?_
    refine V_regionX Γ Δ [] [0, 1, 2, 4, 5, 18, 20] (evs ?_)
    all_goals (try with_reducible (repeat' (first | apply And.intro | intro _)))
    all_goals (try (first | with_reducible refine wa_id ?_ | exact True.intro | omega))
    refine V_cond (evs ?_)
    refine ⟨fun hc => ?_, fun hc => ?_⟩
    · refine WA_seq (x := (fcd Try.f40 [1, 1, 0, 1, 0, 0])) (y := (fcd Try.f40 [1, 1, 0, 1, 0, 1])) ?_
      refine V_draw Γ [] [0, 1, 2, 4, 5, 18, 20] mixed (by kernel_rfl) (evs ?_)
      all_goals (try with_reducible (repeat' (first | apply And.intro | intro _)))
      all_goals (try (first | with_reducible refine wa_id ?_ | exact True.intro | omega))
      refine V_ret (evs ?_)
      first | exact fin_sp1 hc | exact fin_sp2 ‹_› hc | exact fin_sp3 ‹_› hc
    · refine WA_skip ?_
      refine WA_seq (x := (fcd Try.f40 [1, 1, 1, 0])) (y := (fcd Try.f40 [1, 1, 1, 1])) ?_
      refine V_draw Γ [] [0, 1, 2, 4, 5, 18, 20] mixed (by kernel_rfl) (evs ?_)
      all_goals (try with_reducible (repeat' (first | apply And.intro | intro _)))
      all_goals (try (first | with_reducible refine wa_id ?_ | exact True.intro | omega))
      refine V_ret (evs ?_)
      first | exact fin_sp1 hc | exact fin_sp2 ‹_› hc | exact fin_sp3 ‹_› hc

/-- imageeditor/imageeditorref02.Has -/
theorem rhas_fn (r : Rc) (p : Pt) : Eng.Fn Try.prog 18 [rcD r, ptD p] (.dat (.b (hasB r p))) := by
  refine Eng.Fn.by (fn := Try.f18) 41 [.tmp 4] Try.func18 rfl Try.ntmps18 rfl (by simp) fun w0 => ?_
  refine WA_seq (x := (fcd Try.f18 [0])) (y := (fcd Try.f18 [1])) ?_
  refine V_regionX Γ Δ [] [0, 1, 2, 3, 4, 5, 6, 7, 8] (evs ?_)
  all_goals (try with_reducible (repeat' (first | apply And.intro | intro _)))
  all_goals (try (first | with_reducible refine wa_id ?_ | exact True.intro | omega))
  refine WA_seq (x := (fcd Try.f18 [1, 0])) (y := (fcd Try.f18 [1, 1])) ?_
  refine V_regionX Γ Δ [] [0, 1, 2, 3, 4, 5, 6, 7, 8] (evs ?_)
  all_goals (try with_reducible (repeat' (first | apply And.intro | intro _)))
  all_goals (try (first | with_reducible refine wa_id ?_ | exact True.intro | exact rspan_fn _ _ | omega))
  refine WA_seq (x := (fcd Try.f18 [1, 1, 0])) (y := (fcd Try.f18 [1, 1, 1])) ?_
  refine V_regionX Γ Δ [] [0, 1, 2, 3, 4, 5, 6, 7, 8] (evs ?_)
  all_goals (try with_reducible (repeat' (first | apply And.intro | intro _)))
  all_goals (try (first | with_reducible refine wa_id ?_ | exact True.intro | exact rspan_fn _ _ | omega))
  refine WA_seq (x := (fcd Try.f18 [1, 1, 1, 0])) (y := (fcd Try.f18 [1, 1, 1, 1])) ?_
  refine V_regionX Γ Δ [] [0, 1, 2, 3, 4, 5, 6, 7, 8] (evs ?_)
  all_goals (try with_reducible (repeat' (first | apply And.intro | intro _)))
  all_goals (try (first | with_reducible refine wa_id ?_ | exact True.intro | omega))
  refine V_ret (evs ?_)
  exact fin_rhas

/-- imageeditor/rect.Area -/
theorem area_fn (r : Rc) : Eng.Fn Try.prog 19 [rcD r] (.dat (.i (areaI r))) := by
  refine Eng.Fn.by (fn := Try.f19) 10 [.tmp 2] Try.func19 rfl Try.ntmps19 rfl (by simp) fun w0 => ?_
  refine WA_seq (x := (fcd Try.f19 [0])) (y := (fcd Try.f19 [1])) ?_
  refine V_regionX Γ Δ [] [0, 1, 2, 4] (evs ?_)
  all_goals (try with_reducible (repeat' (first | apply And.intro | intro _)))
  all_goals (try (first | with_reducible refine wa_id ?_ | exact True.intro | omega))
  refine WA_seq (x := (fcd Try.f19 [1, 0])) (y := (fcd Try.f19 [1, 1])) ?_
  refine WA_seq (x := (fcd Try.f19 [1, 0, 0])) (y := (fcd Try.f19 [1, 0, 1])) ?_
  refine V_regionX Γ Δ [] [0, 1, 2, 4] (evs ?_)
  all_goals (try with_reducible (repeat' (first | apply And.intro | intro _)))
  all_goals (try (first | with_reducible refine wa_id ?_ | exact True.intro | exact empty_fn _ | omega))
  refine V_cond (evs ?_)
  refine ⟨fun hc => ?_, fun hc => ?_⟩
  · refine WA_seq (x := (fcd Try.f19 [1, 0, 1, 0, 0])) (y := (fcd Try.f19 [1, 0, 1, 0, 1])) ?_
    refine V_regionX Γ Δ [] [0, 1, 2, 4] (evs ?_)
    all_goals (try with_reducible (repeat' (first | apply And.intro | intro _)))
    all_goals (try (first | with_reducible refine wa_id ?_ | exact True.intro | omega))
    refine V_ret (evs ?_)
    first | exact fin_a1 hc | exact fin_a2 hc
  · refine WA_skip ?_
    refine WA_seq (x := (fcd Try.f19 [1, 1, 0])) (y := (fcd Try.f19 [1, 1, 1])) ?_
    refine V_regionX Γ Δ [] [0, 1, 2, 4] (evs ?_)
    all_goals (try with_reducible (repeat' (first | apply And.intro | intro _)))
    all_goals (try (first | with_reducible refine wa_id ?_ | exact True.intro | omega))
    refine V_ret (evs ?_)
    first | exact fin_a1 hc | exact fin_a2 hc

/-- imageeditor/imageeditorref02.Area -/
theorem rarea_fn (r : Rc) : Eng.Fn Try.prog 20 [rcD r] (.dat (.i (areaI r))) := by
  refine Eng.Fn.by (fn := Try.f20) 10 [.tmp 2] Try.func20 rfl Try.ntmps20 rfl (by simp) fun w0 => ?_
  refine WA_seq (x := (fcd Try.f20 [0])) (y := (fcd Try.f20 [1])) ?_
  refine V_regionX Γ Δ [] [0, 1, 2, 4] (evs ?_)
  all_goals (try with_reducible (repeat' (first | apply And.intro | intro _)))
  all_goals (try (first | with_reducible refine wa_id ?_ | exact True.intro | omega))
  refine WA_seq (x := (fcd Try.f20 [1, 0])) (y := (fcd Try.f20 [1, 1])) ?_
  refine WA_seq (x := (fcd Try.f20 [1, 0, 0])) (y := (fcd Try.f20 [1, 0, 1])) ?_
  refine V_regionX Γ Δ [] [0, 1, 2, 4] (evs ?_)
  all_goals (try with_reducible (repeat' (first | apply And.intro | intro _)))
  all_goals (try (first | with_reducible refine wa_id ?_ | exact True.intro | exact rempty_fn _ | omega))
  refine V_cond (evs ?_)
  refine ⟨fun hc => ?_, fun hc => ?_⟩
  · refine WA_seq (x := (fcd Try.f20 [1, 0, 1, 0, 0])) (y := (fcd Try.f20 [1, 0, 1, 0, 1])) ?_
    refine V_regionX Γ Δ [] [0, 1, 2, 4] (evs ?_)
    all_goals (try with_reducible (repeat' (first | apply And.intro | intro _)))
    all_goals (try (first | with_reducible refine wa_id ?_ | exact True.intro | omega))
    refine V_ret (evs ?_)
    first | exact fin_a1 hc | exact fin_a2 hc
  · refine WA_skip ?_
    refine WA_seq (x := (fcd Try.f20 [1, 1, 0])) (y := (fcd Try.f20 [1, 1, 1])) ?_
    refine V_regionX Γ Δ [] [0, 1, 2, 4] (evs ?_)
    all_goals (try with_reducible (repeat' (first | apply And.intro | intro _)))
    all_goals (try (first | with_reducible refine wa_id ?_ | exact True.intro | omega))
    refine V_ret (evs ?_)
    first | exact fin_a1 hc | exact fin_a2 hc

/-- imageeditor/rect.Within -/
theorem within_fn (a b : Rc) : Eng.Fn Try.prog 21 [rcD a, rcD b] (.dat (.b (withinB a b))) := by
  refine Eng.Fn.by (fn := Try.f21) 47 [.tmp 4] Try.func21 rfl Try.ntmps21 rfl (by simp) fun w0 => ?_
  refine WA_seq (x := (fcd Try.f21 [0])) (y := (fcd Try.f21 [1])) ?_
  refine V_regionX Γ Δ [] [0, 1, 2, 3, 4, 6, 8] (evs ?_)
  all_goals (try with_reducible (repeat' (first | apply And.intro | intro _)))
  all_goals (try (first | with_reducible refine wa_id ?_ | exact True.intro | omega))
  refine WA_seq (x := (fcd Try.f21 [1, 0])) (y := (fcd Try.f21 [1, 1])) ?_
  refine WA_seq (x := (fcd Try.f21 [1, 0, 0])) (y := (fcd Try.f21 [1, 0, 1])) ?_
  refine V_regionX Γ Δ [] [0, 1, 2, 3, 4, 6, 8] (evs ?_)
  all_goals (try with_reducible (repeat' (first | apply And.intro | intro _)))
  all_goals (try (first | with_reducible refine wa_id ?_ | exact True.intro | exact empty_fn _ | omega))
  refine V_cond (evs ?_)
  refine ⟨fun hc => ?_, fun hc => ?_⟩
  · refine WA_seq (x := (fcd Try.f21 [1, 0, 1, 0, 0])) (y := (fcd Try.f21 [1, 0, 1, 0, 1])) ?_
    refine V_regionX Γ Δ [] [0, 1, 2, 3, 4, 6, 8] (evs ?_)
    all_goals (try with_reducible (repeat' (first | apply And.intro | intro _)))
    all_goals (try (first | with_reducible refine wa_id ?_ | exact True.intro | omega))
    refine V_ret (evs ?_)
    first | exact fin_w1 hc | exact fin_w2 ‹_› hc | exact fin_w3 ‹_› hc
  · refine WA_skip ?_
    refine WA_seq (x := (fcd Try.f21 [1, 1, 0])) (y := (fcd Try.f21 [1, 1, 1])) ?_
    refine WA_seq (x := (fcd Try.f21 [1, 1, 0, 0])) (y := (fcd Try.f21 [1, 1, 0, 1])) ?_
    refine V_regionX Γ Δ [] [0, 1, 2, 3, 4, 6, 8] (evs ?_)
    all_goals (try with_reducible (repeat' (first | apply And.intro | intro _)))
    all_goals (try (first | with_reducible refine wa_id ?_ | exact True.intro | exact empty_fn _ | omega))
    refine V_cond (evs ?_)
    refine ⟨fun hc => ?_, fun hc => ?_⟩
    · refine WA_seq (x := (fcd Try.f21 [1, 1, 0, 1, 0, 0])) (y := (fcd Try.f21 [1, 1, 0, 1, 0, 1])) ?_
      refine V_regionX Γ Δ [] [0, 1, 2, 3, 4, 6, 8] (evs ?_)
      all_goals (try with_reducible (repeat' (first | apply And.intro | intro _)))
      all_goals (try (first | with_reducible refine wa_id ?_ | exact True.intro | omega))
      refine V_ret (evs ?_)
      first | exact fin_w1 hc | exact fin_w2 ‹_› hc | exact fin_w3 ‹_› hc
    · refine WA_skip ?_
      refine WA_seq (x := (fcd Try.f21 [1, 1, 1, 0])) (y := (fcd Try.f21 [1, 1, 1, 1])) ?_
      refine V_regionX Γ Δ [] [0, 1, 2, 3, 4, 6, 8] (evs ?_)
      all_goals (try with_reducible (repeat' (first | apply And.intro | intro _)))
      all_goals (try (first | with_reducible refine wa_id ?_ | exact True.intro | omega))
      refine V_ret (evs ?_)
      first | exact fin_w1 hc | exact fin_w2 ‹_› hc | exact fin_w3 ‹_› hc

/-- imageeditor/imageeditorref02.Within -/
theorem rwithin_fn (a b : Rc) : Eng.Fn Try.prog 22 [rcD a, rcD b] (.dat (.b (withinB a b))) := by
  refine Eng.Fn.by (fn := Try.f22) 33 [.tmp 4] Try.func22 rfl Try.ntmps22 rfl (by simp) fun w0 => ?_
  refine WA_seq (x := (fcd Try.f22 [0])) (y := (fcd Try.f22 [1])) ?_
  refine V_regionX Γ Δ [] [0, 1, 2, 3, 4, 5, 6, 7, 8, 10] (evs ?_)
  all_goals (try with_reducible (repeat' (first | apply And.intro | intro _)))
  all_goals (try (first | with_reducible refine wa_id ?_ | exact True.intro | omega | exact rhas_fn _ ⟨_, _⟩))
  refine WA_seq (x := (fcd Try.f22 [1, 0])) (y := (fcd Try.f22 [1, 1])) ?_
  refine WA_seq (x := (fcd Try.f22 [1, 0, 0])) (y := (fcd Try.f22 [1, 0, 1])) ?_
  refine V_regionX Γ Δ [] [0, 1, 2, 3, 4, 5, 6, 7, 8, 10] (evs ?_)
  all_goals (try with_reducible (repeat' (first | apply And.intro | intro _)))
  all_goals (try (first | with_reducible refine wa_id ?_ | exact True.intro | exact rempty_fn _ | omega | exact rhas_fn _ ⟨_, _⟩))
  refine V_cond (evs ?_)
  refine ⟨fun hc => ?_, fun hc => ?_⟩
  · refine WA_seq (x := (fcd Try.f22 [1, 0, 1, 0, 0])) (y := (fcd Try.f22 [1, 0, 1, 0, 1])) ?_
    refine V_regionX Γ Δ [] [0, 1, 2, 3, 4, 5, 6, 7, 8, 10] (evs ?_)
    all_goals (try with_reducible (repeat' (first | apply And.intro | intro _)))
    all_goals (try (first | with_reducible refine wa_id ?_ | exact True.intro | omega | exact rhas_fn _ ⟨_, _⟩))
    refine V_ret (evs ?_)
    first | exact fin_w1 hc | exact fin_rw ‹_›
  · refine WA_skip ?_
    refine WA_seq (x := (fcd Try.f22 [1, 1, 0])) (y := (fcd Try.f22 [1, 1, 1])) ?_
    refine V_regionX Γ Δ [] [0, 1, 2, 3, 4, 5, 6, 7, 8, 10] (evs ?_)
    all_goals (try with_reducible (repeat' (first | apply And.intro | intro _)))
    all_goals (try (first | with_reducible refine wa_id ?_ | exact True.intro | exact rspan_fn _ _ | omega | exact rhas_fn _ ⟨_, _⟩))
    refine WA_seq (x := (fcd Try.f22 [1, 1, 1, 0])) (y := (fcd Try.f22 [1, 1, 1, 1])) ?_
    refine V_regionX Γ Δ [] [0, 1, 2, 3, 4, 5, 6, 7, 8, 10] (evs ?_)
    all_goals (try with_reducible (repeat' (first | apply And.intro | intro _)))
    all_goals (try (first | with_reducible refine wa_id ?_ | exact True.intro | exact rspan_fn _ _ | omega | exact rhas_fn _ ⟨_, _⟩))
    refine WA_seq (x := (fcd Try.f22 [1, 1, 1, 1, 0])) (y := (fcd Try.f22 [1, 1, 1, 1, 1])) ?_
    refine V_regionX Γ Δ [] [0, 1, 2, 3, 4, 5, 6, 7, 8, 10] (evs ?_)
    all_goals (try with_reducible (repeat' (first | apply And.intro | intro _)))
    all_goals (try (first | with_reducible refine wa_id ?_ | exact True.intro | exact rhas_fn _ _ | omega | exact rhas_fn _ ⟨_, _⟩))
    refine V_ret (evs ?_)
    first | exact fin_w1 hc | exact fin_rw ‹_›

end Go.Rect

