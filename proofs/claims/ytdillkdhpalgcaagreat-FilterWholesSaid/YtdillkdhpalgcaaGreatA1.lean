import Derived.Test.YtdillkdhpalgcaaGreatF16
set_option linter.unusedSimpArgs false
set_option linter.unusedVariables false
set_option linter.unusedSimpArgs false
set_option linter.unusedVariables false
namespace Go.S16
open Go.RowKit Go.Proofs Go.Eng Go.Rect
theorem span_fn (x w : Int) : Eng.Fn Tryz.prog 62 [.i x, .i w] (.dat (.b (spanB x w))) := by
  refine Eng.Fn.by (fn := Tryz.f62) 21 [.tmp 4] Tryz.func62 rfl Tryz.ntmps62 rfl (by simp) fun w0 G0 => ?_
  refine WA_seq (x := (fcd Tryz.f62 [0])) (y := (fcd Tryz.f62 [1])) ?_
  refine V_regionX Γ Δ [] [0, 1, 4] (evs ?_)
  all_goals (try with_reducible (repeat' (first | apply And.intro | intro _)))
  all_goals (try (first | with_reducible refine wa_id ?_ | exact True.intro | omega))
  refine WA_seq (x := (fcd Tryz.f62 [1, 0])) (y := (fcd Tryz.f62 [1, 1])) ?_
  refine V_regionX Γ Δ [] [0, 1, 4] (evs ?_)
  all_goals (try with_reducible (repeat' (first | apply And.intro | intro _)))
  all_goals (try (first | with_reducible refine wa_id ?_ | exact True.intro | omega))
  refine V_ret (evs ?_)
  rw [Bool.eq_iff_iff]; simp only [spanB, Bool.and_eq_true, decide_eq_true_eq]
  constructor
  all_goals (intro ⟨⟨⟨h1, h2⟩, h3⟩, h4⟩; rw [w64 (by omega) (by omega)] at *; exact ⟨⟨⟨h1, h2⟩, h3⟩, h4⟩)

theorem valid_fn (r : Rc) : Eng.Fn Tryz.prog 24 [rcD r] (.dat (.b (validB r))) := by
  refine Eng.Fn.by (fn := Tryz.f24) 15 [.tmp 2] Tryz.func24 rfl Tryz.ntmps24 rfl (by simp) fun w0 G0 => ?_
  refine WA_seq (x := (fcd Tryz.f24 [0])) (y := (fcd Tryz.f24 [1])) ?_
  refine V_regionX Γ Δ [] [0, 1, 2] (evs ?_)
  all_goals (try with_reducible (repeat' (first | apply And.intro | intro _)))
  all_goals (try (first | with_reducible refine wa_id ?_ | exact True.intro | omega))
  refine WA_seq (x := (fcd Tryz.f24 [1, 0])) (y := (fcd Tryz.f24 [1, 1])) ?_
  refine V_regionX Γ Δ [] [0, 1, 2] (evs ?_)
  all_goals (try with_reducible (repeat' (first | apply And.intro | intro _)))
  all_goals (try (first | with_reducible refine wa_id ?_ | exact True.intro | exact span_fn _ _ | omega))
  refine V_ret (evs ?_)
  rfl

theorem empty_fn (r : Rc) : Eng.Fn Tryz.prog 25 [rcD r] (.dat (.b (emptyB r))) := by
  refine Eng.Fn.by (fn := Tryz.f25) 16 [.tmp 2] Tryz.func25 rfl Tryz.ntmps25 rfl (by simp) fun w0 G0 => ?_
  refine WA_seq (x := (fcd Tryz.f25 [0])) (y := (fcd Tryz.f25 [1])) ?_
  refine V_regionX Γ Δ [] [0, 1, 2] (evs ?_)
  all_goals (try with_reducible (repeat' (first | apply And.intro | intro _)))
  all_goals (try (first | with_reducible refine wa_id ?_ | exact True.intro | omega))
  refine WA_seq (x := (fcd Tryz.f25 [1, 0])) (y := (fcd Tryz.f25 [1, 1])) ?_
  refine V_regionX Γ Δ [] [0, 1, 2] (evs ?_)
  all_goals (try with_reducible (repeat' (first | apply And.intro | intro _)))
  all_goals (try (first | with_reducible refine wa_id ?_ | exact True.intro | exact valid_fn _ | omega))
  refine V_ret (evs ?_)
  rfl

set_option maxRecDepth 100000 in
theorem within_fn (a b : Rc) : Eng.Fn Tryz.prog 26 [rcD a, rcD b] (.dat (.b (withinB a b))) := by
  refine Eng.Fn.by (fn := Tryz.f26) 47 [.tmp 4] Tryz.func26 rfl Tryz.ntmps26 rfl (by simp) fun w0 G0 => ?_
  refine WA_seq (x := (fcd Tryz.f26 [0])) (y := (fcd Tryz.f26 [1])) ?_
  refine V_regionX Γ Δ [] [0, 1, 2, 3, 4, 6, 8] (evs ?_)
  all_goals (try with_reducible (repeat' (first | apply And.intro | intro _)))
  all_goals (try (first | with_reducible refine wa_id ?_ | exact True.intro | omega))
  refine WA_seq (x := (fcd Tryz.f26 [1, 0])) (y := (fcd Tryz.f26 [1, 1])) ?_
  refine WA_seq (x := (fcd Tryz.f26 [1, 0, 0])) (y := (fcd Tryz.f26 [1, 0, 1])) ?_
  refine V_regionX Γ Δ [] [0, 1, 2, 3, 4, 6, 8] (evs ?_)
  all_goals (try with_reducible (repeat' (first | apply And.intro | intro _)))
  all_goals (try (first | with_reducible refine wa_id ?_ | exact True.intro | exact empty_fn _ | omega))
  refine V_cond (evs ?_)
  refine ⟨fun hc => ?_, fun hc => ?_⟩
  · refine WA_seq (x := (fcd Tryz.f26 [1, 0, 1, 0, 0])) (y := (fcd Tryz.f26 [1, 0, 1, 0, 1])) ?_
    refine V_regionX Γ Δ [] [0, 1, 2, 3, 4, 6, 8] (evs ?_)
    all_goals (try with_reducible (repeat' (first | apply And.intro | intro _)))
    all_goals (try (first | with_reducible refine wa_id ?_ | exact True.intro | omega))
    refine V_ret (evs ?_)
    first | exact fin_w1 hc | exact fin_w2 ‹_› hc | exact fin_w3 ‹_› hc
  · refine WA_skip ?_
    refine WA_seq (x := (fcd Tryz.f26 [1, 1, 0])) (y := (fcd Tryz.f26 [1, 1, 1])) ?_
    refine WA_seq (x := (fcd Tryz.f26 [1, 1, 0, 0])) (y := (fcd Tryz.f26 [1, 1, 0, 1])) ?_
    refine V_regionX Γ Δ [] [0, 1, 2, 3, 4, 6, 8] (evs ?_)
    all_goals (try with_reducible (repeat' (first | apply And.intro | intro _)))
    all_goals (try (first | with_reducible refine wa_id ?_ | exact True.intro | exact empty_fn _ | omega))
    refine V_cond (evs ?_)
    refine ⟨fun hc => ?_, fun hc => ?_⟩
    · refine WA_seq (x := (fcd Tryz.f26 [1, 1, 0, 1, 0, 0])) (y := (fcd Tryz.f26 [1, 1, 0, 1, 0, 1])) ?_
      refine V_regionX Γ Δ [] [0, 1, 2, 3, 4, 6, 8] (evs ?_)
      all_goals (try with_reducible (repeat' (first | apply And.intro | intro _)))
      all_goals (try (first | with_reducible refine wa_id ?_ | exact True.intro | omega))
      refine V_ret (evs ?_)
      first | exact fin_w1 hc | exact fin_w2 ‹_› hc | exact fin_w3 ‹_› hc
    · refine WA_skip ?_
      refine WA_seq (x := (fcd Tryz.f26 [1, 1, 1, 0])) (y := (fcd Tryz.f26 [1, 1, 1, 1])) ?_
      refine V_regionX Γ Δ [] [0, 1, 2, 3, 4, 6, 8] (evs ?_)
      all_goals (try with_reducible (repeat' (first | apply And.intro | intro _)))
      all_goals (try (first | with_reducible refine wa_id ?_ | exact True.intro | omega))
      refine V_ret (evs ?_)
      first | exact fin_w1 hc | exact fin_w2 ‹_› hc | exact fin_w3 ‹_› hc

theorem between_fn (x0 y0 x1 y1 : Int) : Eng.Fn Tryz.prog 63 [.i x0, .i y0, .i x1, .i y1] (.dat (rcD (betweenR x0 y0 x1 y1))) := by
  refine Eng.Fn.by (fn := Tryz.f63) 35 [.cell 8 29] Tryz.func63 rfl Tryz.ntmps63 rfl (by simp) fun w0 G0 => ?_
  refine WA_seq (x := (fcd Tryz.f63 [0])) (y := (fcd Tryz.f63 [1])) ?_
  refine V_regionX Γ Δ [] [0, 1, 2, 3, 8, 24] (evs ?_)
  all_goals (try with_reducible (repeat' (first | apply And.intro | intro _)))
  all_goals (try (first | with_reducible refine wa_id ?_ | exact True.intro | omega))
  refine WA_seq (x := (fcd Tryz.f63 [1, 0])) (y := (fcd Tryz.f63 [1, 1])) ?_
  refine V_regionX Γ Δ [] [0, 1, 2, 3, 8, 24] (evs ?_)
  all_goals (try with_reducible (repeat' (first | apply And.intro | intro _)))
  all_goals (try (first | with_reducible refine wa_id ?_ | exact True.intro | omega))
  refine WA_seq (x := (fcd Tryz.f63 [1, 1, 0])) (y := (fcd Tryz.f63 [1, 1, 1])) ?_
  refine V_regionX Γ Δ [] [0, 1, 2, 3, 8, 24] (evs ?_)
  all_goals (try with_reducible (repeat' (first | apply And.intro | intro _)))
  all_goals (try (first | with_reducible refine wa_id ?_ | exact True.intro | omega))
  refine WA_seq (x := (fcd Tryz.f63 [1, 1, 1, 0])) (y := (fcd Tryz.f63 [1, 1, 1, 1])) ?_
  refine WA_seq (x := (fcd Tryz.f63 [1, 1, 1, 0, 0])) (y := (fcd Tryz.f63 [1, 1, 1, 0, 1])) ?_
  refine V_regionX Γ Δ [] [0, 1, 2, 3, 8, 24] (evs ?_)
  all_goals (try with_reducible (repeat' (first | apply And.intro | intro _)))
  all_goals (try (first | with_reducible refine wa_id ?_ | exact True.intro | omega))
  refine V_cond (evs ?_)
  refine ⟨fun hc => ?_, fun hc => ?_⟩
  · refine WA_seq (x := (fcd Tryz.f63 [1, 1, 1, 0, 1, 0, 0])) (y := (fcd Tryz.f63 [1, 1, 1, 0, 1, 0, 1])) ?_
    refine V_regionX Γ Δ [] [0, 1, 2, 3, 8, 24] (evs ?_)
    all_goals (try with_reducible (repeat' (first | apply And.intro | intro _)))
    all_goals (try (first | with_reducible refine wa_id ?_ | exact True.intro | omega))
    refine V_ret (evs ?_)
    first | exact fe (r := zR) (fin_b1 hc) | exact fe (fin_b2 hc)
  · refine WA_skip ?_
    refine WA_seq (x := (fcd Tryz.f63 [1, 1, 1, 1, 0])) (y := (fcd Tryz.f63 [1, 1, 1, 1, 1])) ?_
    refine V_regionX Γ Δ [] [0, 1, 2, 3, 8, 24] (evs ?_)
    all_goals (try with_reducible (repeat' (first | apply And.intro | intro _)))
    all_goals (try (first | with_reducible refine wa_id ?_ | exact True.intro | omega))
    refine V_ret (evs ?_)
    first | exact fe (r := zR) (fin_b1 hc) | exact fe (fin_b2 hc)

theorem meet_fn (a b : Rc) : Eng.Fn Tryz.prog 27 [rcD a, rcD b] (.dat (rcD (meetR a b))) := by
  refine Eng.Fn.by (fn := Tryz.f27) 45 [.cell 4 29] Tryz.func27 rfl Tryz.ntmps27 rfl (by simp) fun w0 G0 => ?_
  refine WA_seq (x := (fcd Tryz.f27 [0])) (y := (fcd Tryz.f27 [1])) ?_
  refine V_regionX Γ Δ [] [0, 1, 2, 3, 4, 10] (evs ?_)
  all_goals (try with_reducible (repeat' (first | apply And.intro | intro _)))
  all_goals (try (first | with_reducible refine wa_id ?_ | exact True.intro | omega))
  refine WA_seq (x := (fcd Tryz.f27 [1, 0])) (y := (fcd Tryz.f27 [1, 1])) ?_
  refine WA_seq (x := (fcd Tryz.f27 [1, 0, 0])) (y := (fcd Tryz.f27 [1, 0, 1])) ?_
  refine V_regionX Γ Δ [] [0, 1, 2, 3, 4, 10] (evs ?_)
  all_goals (try with_reducible (repeat' (first | apply And.intro | intro _)))
  all_goals (try (first | with_reducible refine wa_id ?_ | exact True.intro | exact empty_fn _ | omega))
  refine V_cond (evs ?_)
  refine ⟨fun hc => ?_, fun hc => ?_⟩
  · refine WA_seq (x := (fcd Tryz.f27 [1, 0, 1, 0, 0])) (y := (fcd Tryz.f27 [1, 0, 1, 0, 1])) ?_
    refine V_regionX Γ Δ [] [0, 1, 2, 3, 4, 10] (evs ?_)
    all_goals (try with_reducible (repeat' (first | apply And.intro | intro _)))
    all_goals (try (first | with_reducible refine wa_id ?_ | exact True.intro | omega))
    refine V_ret (evs ?_)
    first | exact fe (r := zR) (fin_m1 hc) | exact fe (fin_m2 hc)
  · refine WA_skip ?_
    refine WA_seq (x := (fcd Tryz.f27 [1, 1, 0])) (y := (fcd Tryz.f27 [1, 1, 1])) ?_
    refine V_regionX Γ Δ [] [0, 1, 2, 3, 4, 10] (evs ?_)
    all_goals (try with_reducible (repeat' (first | apply And.intro | intro _)))
    all_goals (try (first | with_reducible refine wa_id ?_ | exact True.intro | exact between_fn _ _ _ _ | omega))
    refine V_ret (evs ?_)
    first | exact fe (r := zR) (fin_m1 hc) | exact fe (fin_m2 hc)

theorem grow_fn (r : Rc) (n : Int) : Eng.Fn Tryz.prog 28 [rcD r, .i n] (.dat (rcD (growR r n))) := by
  refine Eng.Fn.by (fn := Tryz.f28) 34 [.cell 4 29] Tryz.func28 rfl Tryz.ntmps28 rfl (by simp) fun w0 G0 => ?_
  refine WA_seq (x := (fcd Tryz.f28 [0])) (y := (fcd Tryz.f28 [1])) ?_
  refine V_regionX Γ Δ [] [0, 1, 2, 4, 6] (evs ?_)
  all_goals (try with_reducible (repeat' (first | apply And.intro | intro _)))
  all_goals (try (first | with_reducible refine wa_id ?_ | exact True.intro | omega))
  refine WA_seq (x := (fcd Tryz.f28 [1, 0])) (y := (fcd Tryz.f28 [1, 1])) ?_
  refine WA_seq (x := (fcd Tryz.f28 [1, 0, 0])) (y := (fcd Tryz.f28 [1, 0, 1])) ?_
  refine V_regionX Γ Δ [] [0, 1, 2, 4, 6] (evs ?_)
  all_goals (try with_reducible (repeat' (first | apply And.intro | intro _)))
  all_goals (try (first | with_reducible refine wa_id ?_ | exact True.intro | exact empty_fn _ | omega))
  refine V_cond (evs ?_)
  refine ⟨fun hc => ?_, fun hc => ?_⟩
  · refine WA_seq (x := (fcd Tryz.f28 [1, 0, 1, 0, 0])) (y := (fcd Tryz.f28 [1, 0, 1, 0, 1])) ?_
    refine V_regionX Γ Δ [] [0, 1, 2, 4, 6] (evs ?_)
    all_goals (try with_reducible (repeat' (first | apply And.intro | intro _)))
    all_goals (try (first | with_reducible refine wa_id ?_ | exact True.intro | omega))
    refine V_ret (evs ?_)
    first | exact fe (r := zR) (fin_zg hc) | exact fe (fin_gr hc)
  · refine WA_skip ?_
    refine WA_seq (x := (fcd Tryz.f28 [1, 1, 0])) (y := (fcd Tryz.f28 [1, 1, 1])) ?_
    refine V_regionX Γ Δ [] [0, 1, 2, 4, 6] (evs ?_)
    all_goals (try with_reducible (repeat' (first | apply And.intro | intro _)))
    all_goals (try (first | with_reducible refine wa_id ?_ | exact True.intro | omega))
    refine WA_seq (x := (fcd Tryz.f28 [1, 1, 1, 0])) (y := (fcd Tryz.f28 [1, 1, 1, 1])) ?_
    refine V_regionX Γ Δ [] [0, 1, 2, 4, 6] (evs ?_)
    all_goals (try with_reducible (repeat' (first | apply And.intro | intro _)))
    all_goals (try (first | with_reducible refine wa_id ?_ | exact True.intro | exact between_fn _ _ _ _ | omega))
    refine V_ret (evs ?_)
    first | exact fe (r := zR) (fin_zg hc) | exact fe (fin_gr hc)

theorem rvalid_fn (r : Rc) : Eng.Fn Tryz.prog 41 [rcD r] (.dat (.b (validB r))) := by
  refine Eng.Fn.by (fn := Tryz.f41) 45 [.tmp 2] Tryz.func41 rfl Tryz.ntmps41 rfl (by simp) fun w0 G0 => ?_
  refine WA_seq (x := (fcd Tryz.f41 [0])) (y := (fcd Tryz.f41 [1])) ?_
  refine V_regionX Γ Δ [] [0, 1, 2, 20] (evs ?_)
  all_goals (try with_reducible (repeat' (first | apply And.intro | intro _)))
  all_goals (try (first | with_reducible refine wa_id ?_ | exact True.intro | omega))
  refine WA_seq (x := (fcd Tryz.f41 [1, 0])) (y := (fcd Tryz.f41 [1, 1])) ?_
  refine WA_seq (x := (fcd Tryz.f41 [1, 0, 0])) (y := (fcd Tryz.f41 [1, 0, 1])) ?_
  refine V_regionX Γ Δ [] [0, 1, 2, 20] (evs ?_)
  all_goals (try with_reducible (repeat' (first | apply And.intro | intro _)))
  all_goals (try (first | with_reducible refine wa_id ?_ | exact True.intro | omega))
  refine V_cond (evs ?_)
  refine ⟨fun hc => ?_, fun hc => ?_⟩
  · refine WA_seq (x := (fcd Tryz.f41 [1, 0, 1, 0, 0])) (y := (fcd Tryz.f41 [1, 0, 1, 0, 1])) ?_
    refine V_regionX Γ Δ [] [0, 1, 2, 20] (evs ?_)
    all_goals (try with_reducible (repeat' (first | apply And.intro | intro _)))
    all_goals (try (first | with_reducible refine wa_id ?_ | exact True.intro | omega))
    refine V_ret (evs ?_)
    all_goals (first | exact fin_rv1 hc | exact fin_rv2 hc)
  · refine WA_skip ?_
    refine WA_seq (x := (fcd Tryz.f41 [1, 1, 0])) (y := (fcd Tryz.f41 [1, 1, 1])) ?_
    refine V_regionX Γ Δ [] [0, 1, 2, 20] (evs ?_)
    all_goals (try with_reducible (repeat' (first | apply And.intro | intro _)))
    all_goals (try (first | with_reducible refine wa_id ?_ | exact True.intro | omega))
    refine V_ret (evs ?_)
    all_goals (first | exact fin_rv1 hc | exact fin_rv2 hc)

theorem rempty_fn (r : Rc) : Eng.Fn Tryz.prog 42 [rcD r] (.dat (.b (emptyB r))) := by
  refine Eng.Fn.by (fn := Tryz.f42) 16 [.tmp 2] Tryz.func42 rfl Tryz.ntmps42 rfl (by simp) fun w0 G0 => ?_
  refine WA_seq (x := (fcd Tryz.f42 [0])) (y := (fcd Tryz.f42 [1])) ?_
  refine V_regionX Γ Δ [] [0, 1, 2] (evs ?_)
  all_goals (try with_reducible (repeat' (first | apply And.intro | intro _)))
  all_goals (try (first | with_reducible refine wa_id ?_ | exact True.intro | omega))
  refine WA_seq (x := (fcd Tryz.f42 [1, 0])) (y := (fcd Tryz.f42 [1, 1])) ?_
  refine V_regionX Γ Δ [] [0, 1, 2] (evs ?_)
  all_goals (try with_reducible (repeat' (first | apply And.intro | intro _)))
  all_goals (try (first | with_reducible refine wa_id ?_ | exact True.intro | exact rvalid_fn _ | omega))
  refine V_ret (evs ?_)
  rfl

theorem rspan_fn (r : Rc) (n : Int) : Eng.Fn Tryz.prog 74 [rcD r, .i n] (.tup [.dat (.i (spanS r n)), .dat (.i (spanE r n))]) := by
  refine Eng.Fn.by (fn := Tryz.f74) 37 [.tmp 4, .tmp 5] Tryz.func74 rfl Tryz.ntmps74 rfl (by simp) fun w0 G0 => ?_
  refine WA_seq (x := (fcd Tryz.f74 [0])) (y := (fcd Tryz.f74 [1])) ?_
  refine V_regionX Γ Δ [] [0, 1, 2, 4, 5, 18, 20] (evs ?_)
  all_goals (try with_reducible (repeat' (first | apply And.intro | intro _)))
  all_goals (try (first | with_reducible refine wa_id ?_ | exact True.intro | omega))
  refine WA_seq (x := (fcd Tryz.f74 [1, 0])) (y := (fcd Tryz.f74 [1, 1])) ?_
  refine WA_seq (x := (fcd Tryz.f74 [1, 0, 0])) (y := (fcd Tryz.f74 [1, 0, 1])) ?_
  refine V_regionX Γ Δ [] [0, 1, 2, 4, 5, 18, 20] (evs ?_)
  all_goals (try with_reducible (repeat' (first | apply And.intro | intro _)))
  all_goals (try (first | with_reducible refine wa_id ?_ | exact True.intro | exact rvalid_fn _ | omega))
  refine V_cond (evs ?_)
  refine ⟨fun hc => ?_, fun hc => ?_⟩
  · refine WA_seq (x := (fcd Tryz.f74 [1, 0, 1, 0, 0])) (y := (fcd Tryz.f74 [1, 0, 1, 0, 1])) ?_
    refine V_regionX Γ Δ [] [0, 1, 2, 4, 5, 18, 20] (evs ?_)
    all_goals (try with_reducible (repeat' (first | apply And.intro | intro _)))
    all_goals (try (first | with_reducible refine wa_id ?_ | exact True.intro | omega))
    refine V_ret (evs ?_)
    first | exact fin_sp1 hc | exact fin_sp2 ‹_› hc | exact fin_sp3 ‹_› hc
  · refine WA_skip ?_
    refine WA_seq (x := (fcd Tryz.f74 [1, 1, 0])) (y := (fcd Tryz.f74 [1, 1, 1])) ?_
    refine WA_seq (x := (fcd Tryz.f74 [1, 1, 0, 0])) (y := (fcd Tryz.f74 [1, 1, 0, 1])) ?_
    refine V_regionX Γ Δ [] [0, 1, 2, 4, 5, 18, 20] (evs ?_)
    all_goals (try with_reducible (repeat' (first | apply And.intro | intro _)))
    all_goals (try (first | with_reducible refine wa_id ?_ | exact True.intro | omega))
    refine V_cond (evs ?_)
    refine ⟨fun hc => ?_, fun hc => ?_⟩
    · refine WA_seq (x := (fcd Tryz.f74 [1, 1, 0, 1, 0, 0])) (y := (fcd Tryz.f74 [1, 1, 0, 1, 0, 1])) ?_
      refine V_draw Γ [] [0, 1, 2, 4, 5, 18, 20] mixed (by kernel_rfl) (evs ?_)
      all_goals (try with_reducible (repeat' (first | apply And.intro | intro _)))
      all_goals (try (first | with_reducible refine wa_id ?_ | exact True.intro | omega))
      refine V_ret (evs ?_)
      first | exact fin_sp1 hc | exact fin_sp2 ‹_› hc | exact fin_sp3 ‹_› hc
    · refine WA_skip ?_
      refine WA_seq (x := (fcd Tryz.f74 [1, 1, 1, 0])) (y := (fcd Tryz.f74 [1, 1, 1, 1])) ?_
      refine V_draw Γ [] [0, 1, 2, 4, 5, 18, 20] mixed (by kernel_rfl) (evs ?_)
      all_goals (try with_reducible (repeat' (first | apply And.intro | intro _)))
      all_goals (try (first | with_reducible refine wa_id ?_ | exact True.intro | omega))
      refine V_ret (evs ?_)
      first | exact fin_sp1 hc | exact fin_sp2 ‹_› hc | exact fin_sp3 ‹_› hc

theorem rhas_fn (r : Rc) (p : Pt) : Eng.Fn Tryz.prog 75 [rcD r, ptD p] (.dat (.b (hasB r p))) := by
  refine Eng.Fn.by (fn := Tryz.f75) 41 [.tmp 4] Tryz.func75 rfl Tryz.ntmps75 rfl (by simp) fun w0 G0 => ?_
  refine WA_seq (x := (fcd Tryz.f75 [0])) (y := (fcd Tryz.f75 [1])) ?_
  refine V_regionX Γ Δ [] [0, 1, 2, 3, 4, 5, 6, 7, 8] (evs ?_)
  all_goals (try with_reducible (repeat' (first | apply And.intro | intro _)))
  all_goals (try (first | with_reducible refine wa_id ?_ | exact True.intro | omega))
  refine WA_seq (x := (fcd Tryz.f75 [1, 0])) (y := (fcd Tryz.f75 [1, 1])) ?_
  refine V_regionX Γ Δ [] [0, 1, 2, 3, 4, 5, 6, 7, 8] (evs ?_)
  all_goals (try with_reducible (repeat' (first | apply And.intro | intro _)))
  all_goals (try (first | with_reducible refine wa_id ?_ | exact True.intro | exact rspan_fn _ _ | omega))
  refine WA_seq (x := (fcd Tryz.f75 [1, 1, 0])) (y := (fcd Tryz.f75 [1, 1, 1])) ?_
  refine V_regionX Γ Δ [] [0, 1, 2, 3, 4, 5, 6, 7, 8] (evs ?_)
  all_goals (try with_reducible (repeat' (first | apply And.intro | intro _)))
  all_goals (try (first | with_reducible refine wa_id ?_ | exact True.intro | exact rspan_fn _ _ | omega))
  refine WA_seq (x := (fcd Tryz.f75 [1, 1, 1, 0])) (y := (fcd Tryz.f75 [1, 1, 1, 1])) ?_
  refine V_regionX Γ Δ [] [0, 1, 2, 3, 4, 5, 6, 7, 8] (evs ?_)
  all_goals (try with_reducible (repeat' (first | apply And.intro | intro _)))
  all_goals (try (first | with_reducible refine wa_id ?_ | exact True.intro | omega))
  refine V_ret (evs ?_)
  exact fin_rhas

theorem of_fn (x0 x1 y0 y1 : Int) (h1 : -4611686018427387904 ≤ x0) (h2 : x1 ≤ 4611686018427387900) (h3 : -4611686018427387904 ≤ y0) (h4 : y1 ≤ 4611686018427387900) : Eng.Fn Tryz.prog 76 [.i x0, .i x1, .i y0, .i y1] (.dat (rcD (ofR x0 x1 y0 y1))) := by
  refine Eng.Fn.by (fn := Tryz.f76) 29 [.cell 8 29] Tryz.func76 rfl Tryz.ntmps76 rfl (by simp) fun w0 G0 => ?_
  refine WA_seq (x := (fcd Tryz.f76 [0])) (y := (fcd Tryz.f76 [1])) ?_
  refine V_regionX Γ Δ [] [0, 1, 2, 3, 8, 16] (evs ?_)
  all_goals (try with_reducible (repeat' (first | apply And.intro | intro _)))
  all_goals (try (first | with_reducible refine wa_id ?_ | exact True.intro | omega))
  refine WA_seq (x := (fcd Tryz.f76 [1, 0])) (y := (fcd Tryz.f76 [1, 1])) ?_
  refine WA_seq (x := (fcd Tryz.f76 [1, 0, 0])) (y := (fcd Tryz.f76 [1, 0, 1])) ?_
  refine V_regionX Γ Δ [] [0, 1, 2, 3, 8, 16] (evs ?_)
  all_goals (try with_reducible (repeat' (first | apply And.intro | intro _)))
  all_goals (try (first | with_reducible refine wa_id ?_ | exact True.intro | omega))
  refine V_cond (evs ?_)
  refine ⟨fun hc => ?_, fun hc => ?_⟩
  · refine WA_seq (x := (fcd Tryz.f76 [1, 0, 1, 0, 0])) (y := (fcd Tryz.f76 [1, 0, 1, 0, 1])) ?_
    refine V_regionX Γ Δ [] [0, 1, 2, 3, 8, 16] (evs ?_)
    all_goals (try with_reducible (repeat' (first | apply And.intro | intro _)))
    all_goals (try (first | with_reducible refine wa_id ?_ | exact True.intro | omega))
    refine V_ret (evs ?_)
    first | exact fe (r := zR) (fin_o1 hc) | exact fe (fin_o2 h1 h2 h3 h4 hc)
  · refine WA_skip ?_
    refine WA_seq (x := (fcd Tryz.f76 [1, 1, 0])) (y := (fcd Tryz.f76 [1, 1, 1])) ?_
    refine V_regionX Γ Δ [] [0, 1, 2, 3, 8, 16] (evs ?_)
    all_goals (try with_reducible (repeat' (first | apply And.intro | intro _)))
    all_goals (try (first | with_reducible refine wa_id ?_ | exact True.intro | omega))
    refine V_ret (evs ?_)
    first | exact fe (r := zR) (fin_o1 hc) | exact fe (fin_o2 h1 h2 h3 h4 hc)

theorem world_fn (x0 x1 y0 y1 : Int) : Eng.Fn Tryz.prog 78 [.i x0, .i x1, .i y0, .i y1] (.dat (rcD (worldR x0 x1 y0 y1))) := by
  refine Eng.Fn.by (fn := Tryz.f78) 18 [.cell 8 29] Tryz.func78 rfl Tryz.ntmps78 rfl (by simp) fun w0 G0 => ?_
  refine WA_seq (x := (fcd Tryz.f78 [0])) (y := (fcd Tryz.f78 [1])) ?_
  refine V_regionX Γ Δ [] [0, 1, 2, 3, 8] (evs ?_)
  all_goals (try with_reducible (repeat' (first | apply And.intro | intro _)))
  all_goals (try (first | with_reducible refine wa_id ?_ | exact True.intro | omega))
  refine WA_seq (x := (fcd Tryz.f78 [1, 0])) (y := (fcd Tryz.f78 [1, 1])) ?_
  refine V_regionX Γ Δ [] [0, 1, 2, 3, 8] (evs ?_)
  all_goals (try with_reducible (repeat' (first | apply And.intro | intro _)))
  all_goals (try (first | with_reducible refine wa_id ?_ | exact True.intro | exact of_fn _ _ _ _ (by omega) (by omega) (by omega) (by omega) | omega))
  refine V_ret (evs ?_)
  exact fe rfl

theorem limit_fn (n : Int) : Eng.Fn Tryz.prog 77 [.i n] (.dat (.i (lim3 n))) := by
  refine Eng.Fn.by (fn := Tryz.f77) 6 [.tmp 2] Tryz.func77 rfl Tryz.ntmps77 rfl (by simp) fun w0 G0 => ?_
  refine WA_seq (x := (fcd Tryz.f77 [0])) (y := (fcd Tryz.f77 [1])) ?_
  refine V_regionX Γ Δ [] [0, 2] (evs ?_)
  all_goals (try with_reducible (repeat' (first | apply And.intro | intro _)))
  all_goals (try (first | with_reducible refine wa_id ?_ | exact True.intro | omega))
  refine WA_seq (x := (fcd Tryz.f77 [1, 0])) (y := (fcd Tryz.f77 [1, 1])) ?_
  refine V_regionX Γ Δ [] [0, 2] (evs ?_)
  all_goals (try with_reducible (repeat' (first | apply And.intro | intro _)))
  all_goals (try (first | with_reducible refine wa_id ?_ | exact True.intro | omega))
  refine V_ret (evs ?_)
  rfl

theorem rwithin_fn (a b : Rc) : Eng.Fn Tryz.prog 43 [rcD a, rcD b] (.dat (.b (withinB a b))) := by
  refine Eng.Fn.by (fn := Tryz.f43) 33 [.tmp 4] Tryz.func43 rfl Tryz.ntmps43 rfl (by simp) fun w0 G0 => ?_
  refine WA_seq (x := (fcd Tryz.f43 [0])) (y := (fcd Tryz.f43 [1])) ?_
  refine V_regionX Γ Δ [] [0, 1, 2, 3, 4, 5, 6, 7, 8, 10] (evs ?_)
  all_goals (try with_reducible (repeat' (first | apply And.intro | intro _)))
  all_goals (try (first | with_reducible refine wa_id ?_ | exact True.intro | omega | exact rhas_fn _ ⟨_, _⟩))
  refine WA_seq (x := (fcd Tryz.f43 [1, 0])) (y := (fcd Tryz.f43 [1, 1])) ?_
  refine WA_seq (x := (fcd Tryz.f43 [1, 0, 0])) (y := (fcd Tryz.f43 [1, 0, 1])) ?_
  refine V_regionX Γ Δ [] [0, 1, 2, 3, 4, 5, 6, 7, 8, 10] (evs ?_)
  all_goals (try with_reducible (repeat' (first | apply And.intro | intro _)))
  all_goals (try (first | with_reducible refine wa_id ?_ | exact True.intro | exact rempty_fn _ | omega | exact rhas_fn _ ⟨_, _⟩))
  refine V_cond (evs ?_)
  refine ⟨fun hc => ?_, fun hc => ?_⟩
  · refine WA_seq (x := (fcd Tryz.f43 [1, 0, 1, 0, 0])) (y := (fcd Tryz.f43 [1, 0, 1, 0, 1])) ?_
    refine V_regionX Γ Δ [] [0, 1, 2, 3, 4, 5, 6, 7, 8, 10] (evs ?_)
    all_goals (try with_reducible (repeat' (first | apply And.intro | intro _)))
    all_goals (try (first | with_reducible refine wa_id ?_ | exact True.intro | omega | exact rhas_fn _ ⟨_, _⟩))
    refine V_ret (evs ?_)
    first | exact fin_w1 hc | exact fin_rw ‹_›
  · refine WA_skip ?_
    refine WA_seq (x := (fcd Tryz.f43 [1, 1, 0])) (y := (fcd Tryz.f43 [1, 1, 1])) ?_
    refine V_regionX Γ Δ [] [0, 1, 2, 3, 4, 5, 6, 7, 8, 10] (evs ?_)
    all_goals (try with_reducible (repeat' (first | apply And.intro | intro _)))
    all_goals (try (first | with_reducible refine wa_id ?_ | exact True.intro | exact rspan_fn _ _ | omega | exact rhas_fn _ ⟨_, _⟩))
    refine WA_seq (x := (fcd Tryz.f43 [1, 1, 1, 0])) (y := (fcd Tryz.f43 [1, 1, 1, 1])) ?_
    refine V_regionX Γ Δ [] [0, 1, 2, 3, 4, 5, 6, 7, 8, 10] (evs ?_)
    all_goals (try with_reducible (repeat' (first | apply And.intro | intro _)))
    all_goals (try (first | with_reducible refine wa_id ?_ | exact True.intro | exact rspan_fn _ _ | omega | exact rhas_fn _ ⟨_, _⟩))
    refine WA_seq (x := (fcd Tryz.f43 [1, 1, 1, 1, 0])) (y := (fcd Tryz.f43 [1, 1, 1, 1, 1])) ?_
    refine V_regionX Γ Δ [] [0, 1, 2, 3, 4, 5, 6, 7, 8, 10] (evs ?_)
    all_goals (try with_reducible (repeat' (first | apply And.intro | intro _)))
    all_goals (try (first | with_reducible refine wa_id ?_ | exact True.intro | exact rhas_fn _ ⟨_, _⟩ | omega | exact rhas_fn _ ⟨_, _⟩))
    refine V_ret (evs ?_)
    first | exact fin_w1 hc | exact fin_rw ‹_›

set_option maxRecDepth 100000 in
theorem rmeet_fn (a b : Rc) : Eng.Fn Tryz.prog 44 [rcD a, rcD b] (.dat (rcD (meetR a b))) := by
  refine Eng.Fn.by (fn := Tryz.f44) 53 [.cell 4 29] Tryz.func44 rfl Tryz.ntmps44 rfl (by simp) fun w0 G0 => ?_
  refine WA_seq (x := (fcd Tryz.f44 [0])) (y := (fcd Tryz.f44 [1])) ?_
  refine V_regionX Γ Δ [] [0, 1, 2, 3, 4, 5, 6, 7, 8, 9, 10, 11, 12, 18] (evs ?_)
  all_goals (try with_reducible (repeat' (first | apply And.intro | intro _)))
  all_goals (try (first | with_reducible refine wa_id ?_ | exact True.intro | omega | (have := sp_bd a 0; have := sp_bd a 1; have := sp_bd b 0; have := sp_bd b 1; exact of_fn _ _ _ _ (by omega) (by omega) (by omega) (by omega))))
  refine WA_seq (x := (fcd Tryz.f44 [1, 0])) (y := (fcd Tryz.f44 [1, 1])) ?_
  refine WA_seq (x := (fcd Tryz.f44 [1, 0, 0])) (y := (fcd Tryz.f44 [1, 0, 1])) ?_
  refine V_regionX Γ Δ [] [0, 1, 2, 3, 4, 5, 6, 7, 8, 9, 10, 11, 12, 18] (evs ?_)
  all_goals (try with_reducible (repeat' (first | apply And.intro | intro _)))
  all_goals (try (first | with_reducible refine wa_id ?_ | exact True.intro | exact rempty_fn _ | omega | (have := sp_bd a 0; have := sp_bd a 1; have := sp_bd b 0; have := sp_bd b 1; exact of_fn _ _ _ _ (by omega) (by omega) (by omega) (by omega))))
  refine V_cond (evs ?_)
  refine ⟨fun hc => ?_, fun hc => ?_⟩
  · refine WA_seq (x := (fcd Tryz.f44 [1, 0, 1, 0, 0])) (y := (fcd Tryz.f44 [1, 0, 1, 0, 1])) ?_
    refine V_regionX Γ Δ [] [0, 1, 2, 3, 4, 5, 6, 7, 8, 9, 10, 11, 12, 18] (evs ?_)
    all_goals (try with_reducible (repeat' (first | apply And.intro | intro _)))
    all_goals (try (first | with_reducible refine wa_id ?_ | exact True.intro | omega | (have := sp_bd a 0; have := sp_bd a 1; have := sp_bd b 0; have := sp_bd b 1; exact of_fn _ _ _ _ (by omega) (by omega) (by omega) (by omega))))
    refine V_ret (evs ?_)
    first | exact fe (r := zR) (fin_m1 hc) | exact fe (fin_m3 hc)
  · refine WA_skip ?_
    refine WA_seq (x := (fcd Tryz.f44 [1, 1, 0])) (y := (fcd Tryz.f44 [1, 1, 1])) ?_
    refine V_regionX Γ Δ [] [0, 1, 2, 3, 4, 5, 6, 7, 8, 9, 10, 11, 12, 18] (evs ?_)
    all_goals (try with_reducible (repeat' (first | apply And.intro | intro _)))
    all_goals (try (first | with_reducible refine wa_id ?_ | exact True.intro | exact rspan_fn _ _ | omega | (have := sp_bd a 0; have := sp_bd a 1; have := sp_bd b 0; have := sp_bd b 1; exact of_fn _ _ _ _ (by omega) (by omega) (by omega) (by omega))))
    refine WA_seq (x := (fcd Tryz.f44 [1, 1, 1, 0])) (y := (fcd Tryz.f44 [1, 1, 1, 1])) ?_
    refine V_regionX Γ Δ [] [0, 1, 2, 3, 4, 5, 6, 7, 8, 9, 10, 11, 12, 18] (evs ?_)
    all_goals (try with_reducible (repeat' (first | apply And.intro | intro _)))
    all_goals (try (first | with_reducible refine wa_id ?_ | exact True.intro | exact rspan_fn _ _ | omega | (have := sp_bd a 0; have := sp_bd a 1; have := sp_bd b 0; have := sp_bd b 1; exact of_fn _ _ _ _ (by omega) (by omega) (by omega) (by omega))))
    refine WA_seq (x := (fcd Tryz.f44 [1, 1, 1, 1, 0])) (y := (fcd Tryz.f44 [1, 1, 1, 1, 1])) ?_
    refine V_regionX Γ Δ [] [0, 1, 2, 3, 4, 5, 6, 7, 8, 9, 10, 11, 12, 18] (evs ?_)
    all_goals (try with_reducible (repeat' (first | apply And.intro | intro _)))
    all_goals (try (first | with_reducible refine wa_id ?_ | exact True.intro | exact rspan_fn _ _ | omega | (have := sp_bd a 0; have := sp_bd a 1; have := sp_bd b 0; have := sp_bd b 1; exact of_fn _ _ _ _ (by omega) (by omega) (by omega) (by omega))))
    refine WA_seq (x := (fcd Tryz.f44 [1, 1, 1, 1, 1, 0])) (y := (fcd Tryz.f44 [1, 1, 1, 1, 1, 1])) ?_
    refine V_regionX Γ Δ [] [0, 1, 2, 3, 4, 5, 6, 7, 8, 9, 10, 11, 12, 18] (evs ?_)
    all_goals (try with_reducible (repeat' (first | apply And.intro | intro _)))
    all_goals (try (first | with_reducible refine wa_id ?_ | exact True.intro | exact rspan_fn _ _ | omega | (have := sp_bd a 0; have := sp_bd a 1; have := sp_bd b 0; have := sp_bd b 1; exact of_fn _ _ _ _ (by omega) (by omega) (by omega) (by omega))))
    refine WA_seq (x := (fcd Tryz.f44 [1, 1, 1, 1, 1, 1, 0])) (y := (fcd Tryz.f44 [1, 1, 1, 1, 1, 1, 1])) ?_
    refine V_regionX Γ Δ [] [0, 1, 2, 3, 4, 5, 6, 7, 8, 9, 10, 11, 12, 18] (evs ?_)
    all_goals (try with_reducible (repeat' (first | apply And.intro | intro _)))
    all_goals (try (first | with_reducible refine wa_id ?_ | exact True.intro | exact of_fn _ _ _ _ (by omega) (by omega) (by omega) (by omega) | omega | (have := sp_bd a 0; have := sp_bd a 1; have := sp_bd b 0; have := sp_bd b 1; exact of_fn _ _ _ _ (by omega) (by omega) (by omega) (by omega))))
    refine V_ret (evs ?_)
    first | exact fe (r := zR) (fin_m1 hc) | exact fe (fin_m3 hc)

theorem rgrow_fn (r : Rc) (n : Int) : Eng.Fn Tryz.prog 45 [rcD r, .i n] (.dat (rcD (growR r n))) := by
  refine Eng.Fn.by (fn := Tryz.f45) 38 [.cell 4 29] Tryz.func45 rfl Tryz.ntmps45 rfl (by simp) fun w0 G0 => ?_
  refine WA_seq (x := (fcd Tryz.f45 [0])) (y := (fcd Tryz.f45 [1])) ?_
  refine V_regionX Γ Δ [] [0, 1, 2, 4, 5, 6, 7, 8, 9, 11] (evs ?_)
  all_goals (try with_reducible (repeat' (first | apply And.intro | intro _)))
  all_goals (try (first | with_reducible refine wa_id ?_ | exact True.intro | omega))
  refine WA_seq (x := (fcd Tryz.f45 [1, 0])) (y := (fcd Tryz.f45 [1, 1])) ?_
  refine WA_seq (x := (fcd Tryz.f45 [1, 0, 0])) (y := (fcd Tryz.f45 [1, 0, 1])) ?_
  refine V_regionX Γ Δ [] [0, 1, 2, 4, 5, 6, 7, 8, 9, 11] (evs ?_)
  all_goals (try with_reducible (repeat' (first | apply And.intro | intro _)))
  all_goals (try (first | with_reducible refine wa_id ?_ | exact True.intro | exact rempty_fn _ | omega))
  refine V_cond (evs ?_)
  refine ⟨fun hc => ?_, fun hc => ?_⟩
  · refine WA_seq (x := (fcd Tryz.f45 [1, 0, 1, 0, 0])) (y := (fcd Tryz.f45 [1, 0, 1, 0, 1])) ?_
    refine V_regionX Γ Δ [] [0, 1, 2, 4, 5, 6, 7, 8, 9, 11] (evs ?_)
    all_goals (try with_reducible (repeat' (first | apply And.intro | intro _)))
    all_goals (try (first | with_reducible refine wa_id ?_ | exact True.intro | omega))
    refine V_ret (evs ?_)
    first | exact fe (r := zR) (fin_zg hc) | exact fe (fin_rgr hc)
  · refine WA_skip ?_
    refine WA_seq (x := (fcd Tryz.f45 [1, 1, 0])) (y := (fcd Tryz.f45 [1, 1, 1])) ?_
    refine V_regionX Γ Δ [] [0, 1, 2, 4, 5, 6, 7, 8, 9, 11] (evs ?_)
    all_goals (try with_reducible (repeat' (first | apply And.intro | intro _)))
    all_goals (try (first | with_reducible refine wa_id ?_ | exact True.intro | exact rspan_fn _ _ | omega))
    refine WA_seq (x := (fcd Tryz.f45 [1, 1, 1, 0])) (y := (fcd Tryz.f45 [1, 1, 1, 1])) ?_
    refine V_regionX Γ Δ [] [0, 1, 2, 4, 5, 6, 7, 8, 9, 11] (evs ?_)
    all_goals (try with_reducible (repeat' (first | apply And.intro | intro _)))
    all_goals (try (first | with_reducible refine wa_id ?_ | exact True.intro | exact rspan_fn _ _ | omega))
    refine WA_seq (x := (fcd Tryz.f45 [1, 1, 1, 1, 0])) (y := (fcd Tryz.f45 [1, 1, 1, 1, 1])) ?_
    refine V_regionX Γ Δ [] [0, 1, 2, 4, 5, 6, 7, 8, 9, 11] (evs ?_)
    all_goals (try with_reducible (repeat' (first | apply And.intro | intro _)))
    all_goals (try (first | with_reducible refine wa_id ?_ | exact True.intro | exact limit_fn _ | omega))
    refine WA_seq (x := (fcd Tryz.f45 [1, 1, 1, 1, 1, 0])) (y := (fcd Tryz.f45 [1, 1, 1, 1, 1, 1])) ?_
    refine V_regionX Γ Δ [] [0, 1, 2, 4, 5, 6, 7, 8, 9, 11] (evs ?_)
    all_goals (try with_reducible (repeat' (first | apply And.intro | intro _)))
    all_goals (try (first | with_reducible refine wa_id ?_ | exact True.intro | exact world_fn _ _ _ _ | omega))
    refine V_ret (evs ?_)
    first | exact fe (r := zR) (fin_zg hc) | exact fe (fin_rgr hc)

end Go.S16

set_option linter.unusedSimpArgs false
set_option linter.unusedVariables false
namespace Go.S16
open Go.RowKit Go.Proofs Go.Eng Go.Rect
theorem floor_fn (a b : Int) (h1 : -9223372036854775808 ≤ a) (h2 : a ≤ 9223372036854775807) : Eng.Fn Tryz.prog 88 [.i a, .i b] (.dat (.i (floorI a b))) := by
  refine Eng.Fn.by (fn := Tryz.f88) 31 [.tmp 4] Tryz.func88 rfl Tryz.ntmps88 rfl (by simp) fun w0 G0 => ?_
  refine WA_seq (x := (fcd Tryz.f88 [0])) (y := (fcd Tryz.f88 [1])) ?_
  refine V_regionX Γ Δ [] [0, 1, 4, 5, 7, 13, 27] (evs ?_)
  all_goals (try with_reducible (repeat' (first | apply And.intro | intro _)))
  all_goals (try (first | with_reducible refine wa_id ?_ | exact True.intro | omega))
  refine WA_seq (x := (fcd Tryz.f88 [1, 0])) (y := (fcd Tryz.f88 [1, 1])) ?_
  refine WA_seq (x := (fcd Tryz.f88 [1, 0, 0])) (y := (fcd Tryz.f88 [1, 0, 1])) ?_
  refine V_regionX Γ Δ [] [0, 1, 4, 5, 7, 13, 27] (evs ?_)
  all_goals (try with_reducible (repeat' (first | apply And.intro | intro _)))
  all_goals (try (first | with_reducible refine wa_id ?_ | exact True.intro | omega))
  refine V_cond (evs ?_)
  refine ⟨fun hc => ?_, fun hc => ?_⟩
  · refine WA_seq (x := (fcd Tryz.f88 [1, 0, 1, 0, 0])) (y := (fcd Tryz.f88 [1, 0, 1, 0, 1])) ?_
    refine V_regionX Γ Δ [] [0, 1, 4, 5, 7, 13, 27] (evs ?_)
    all_goals (try with_reducible (repeat' (first | apply And.intro | intro _)))
    all_goals (try (first | with_reducible refine wa_id ?_ | exact True.intro | omega))
    refine V_ret (evs ?_)
    first | exact fl1 hc | exact fl2 ‹_› hc | exact fl3 h1 h2 ‹_› ‹_› hc | exact fl4 h1 h2 ‹_› ‹_› hc
  · refine WA_skip ?_
    refine WA_seq (x := (fcd Tryz.f88 [1, 1, 0])) (y := (fcd Tryz.f88 [1, 1, 1])) ?_
    refine WA_seq (x := (fcd Tryz.f88 [1, 1, 0, 0])) (y := (fcd Tryz.f88 [1, 1, 0, 1])) ?_
    refine V_regionX Γ Δ [] [0, 1, 4, 5, 7, 13, 27] (evs ?_)
    all_goals (try with_reducible (repeat' (first | apply And.intro | intro _)))
    all_goals (try (first | with_reducible refine wa_id ?_ | exact True.intro | omega))
    refine V_cond (evs ?_)
    refine ⟨fun hc => ?_, fun hc => ?_⟩
    · refine WA_seq (x := (fcd Tryz.f88 [1, 1, 0, 1, 0, 0])) (y := (fcd Tryz.f88 [1, 1, 0, 1, 0, 1])) ?_
      refine V_regionX Γ Δ [] [0, 1, 4, 5, 7, 13, 27] (evs ?_)
      all_goals (try with_reducible (repeat' (first | apply And.intro | intro _)))
      all_goals (try (first | with_reducible refine wa_id ?_ | exact True.intro | omega))
      refine V_ret (evs ?_)
      first | exact fl1 hc | exact fl2 ‹_› hc | exact fl3 h1 h2 ‹_› ‹_› hc | exact fl4 h1 h2 ‹_› ‹_› hc
    · refine WA_skip ?_
      refine WA_seq (x := (fcd Tryz.f88 [1, 1, 1, 0])) (y := (fcd Tryz.f88 [1, 1, 1, 1])) ?_
      refine V_regionX Γ Δ [] [0, 1, 4, 5, 7, 13, 27] (evs ?_)
      all_goals (try with_reducible (repeat' (first | apply And.intro | intro _)))
      all_goals (try (first | with_reducible refine wa_id ?_ | exact True.intro | omega))
      refine WA_seq (x := (fcd Tryz.f88 [1, 1, 1, 1, 0])) (y := (fcd Tryz.f88 [1, 1, 1, 1, 1])) ?_
      refine WA_seq (x := (fcd Tryz.f88 [1, 1, 1, 1, 0, 0])) (y := (fcd Tryz.f88 [1, 1, 1, 1, 0, 1])) ?_
      refine V_regionX Γ Δ [] [0, 1, 4, 5, 7, 13, 27] (evs ?_)
      all_goals (try with_reducible (repeat' (first | apply And.intro | intro _)))
      all_goals (try (first | with_reducible refine wa_id ?_ | exact True.intro | omega))
      refine V_cond (evs ?_)
      refine ⟨fun hc => ?_, fun hc => ?_⟩
      · refine V_regionX Γ Δ [] [0, 1, 4, 5, 7, 13, 27] (evs ?_)
        all_goals (try with_reducible (repeat' (first | apply And.intro | intro _)))
        all_goals (try (first | with_reducible refine wa_id ?_ | exact True.intro | omega))
        refine WA_seq (x := (fcd Tryz.f88 [1, 1, 1, 1, 1, 0])) (y := (fcd Tryz.f88 [1, 1, 1, 1, 1, 1])) ?_
        refine V_regionX Γ Δ [] [0, 1, 4, 5, 7, 13, 27] (evs ?_)
        all_goals (try with_reducible (repeat' (first | apply And.intro | intro _)))
        all_goals (try (first | with_reducible refine wa_id ?_ | exact True.intro | omega))
        refine V_ret (evs ?_)
        first | exact fl1 hc | exact fl2 ‹_› hc | exact fl3 h1 h2 ‹_› ‹_› hc | exact fl4 h1 h2 ‹_› ‹_› hc
      · refine WA_skip ?_
        refine WA_seq (x := (fcd Tryz.f88 [1, 1, 1, 1, 1, 0])) (y := (fcd Tryz.f88 [1, 1, 1, 1, 1, 1])) ?_
        refine V_regionX Γ Δ [] [0, 1, 4, 5, 7, 13, 27] (evs ?_)
        all_goals (try with_reducible (repeat' (first | apply And.intro | intro _)))
        all_goals (try (first | with_reducible refine wa_id ?_ | exact True.intro | omega))
        refine V_ret (evs ?_)
        first | exact fl1 hc | exact fl2 ‹_› hc | exact fl3 h1 h2 ‹_› ‹_› hc | exact fl4 h1 h2 ‹_› ‹_› hc

set_option maxRecDepth 100000 in
theorem divw_fn (a b : Int) (h1 : -2305843009213693952 ≤ a) (h2 : a ≤ 2305843009213693952) (h3 : 0 ≤ b) (h4 : b ≤ 70368744177664) : Eng.Fn Tryz.prog 65 [.i a, .i b] (.dat (.i (divI a b))) := by
  refine Eng.Fn.by (fn := Tryz.f65) 46 [.tmp 4] Tryz.func65 rfl Tryz.ntmps65 rfl (by simp) fun w0 G0 => ?_
  refine WA_seq (x := (fcd Tryz.f65 [0])) (y := (fcd Tryz.f65 [1])) ?_
  refine V_regionX Γ Δ [] [0, 1, 4, 5, 6, 8, 14, 42] (evs ?_)
  all_goals (try with_reducible (repeat' (first | apply And.intro | intro _)))
  all_goals (try (first | with_reducible refine wa_id ?_ | exact True.intro | omega))
  refine WA_seq (x := (fcd Tryz.f65 [1, 0])) (y := (fcd Tryz.f65 [1, 1])) ?_
  refine WA_seq (x := (fcd Tryz.f65 [1, 0, 0])) (y := (fcd Tryz.f65 [1, 0, 1])) ?_
  refine V_regionX Γ Δ [] [0, 1, 4, 5, 6, 8, 14, 42] (evs ?_)
  all_goals (try with_reducible (repeat' (first | apply And.intro | intro _)))
  all_goals (try (first | with_reducible refine wa_id ?_ | exact True.intro | omega))
  refine V_cond (evs ?_)
  refine ⟨fun hc => ?_, fun hc => ?_⟩
  · refine WA_seq (x := (fcd Tryz.f65 [1, 0, 1, 0, 0])) (y := (fcd Tryz.f65 [1, 0, 1, 0, 1])) ?_
    refine V_regionX Γ Δ [] [0, 1, 4, 5, 6, 8, 14, 42] (evs ?_)
    all_goals (try with_reducible (repeat' (first | apply And.intro | intro _)))
    all_goals (try (first | with_reducible refine wa_id ?_ | exact True.intro | omega))
    refine V_ret (evs ?_)
    first | (exfalso; omega) | exact dv0 hc | exact dw1z h1 h2 h3 h4 hc | exact dw2z h1 h2 h3 h4 ‹_› hc
  · refine WA_skip ?_
    refine WA_seq (x := (fcd Tryz.f65 [1, 1, 0])) (y := (fcd Tryz.f65 [1, 1, 1])) ?_
    refine WA_seq (x := (fcd Tryz.f65 [1, 1, 0, 0])) (y := (fcd Tryz.f65 [1, 1, 0, 1])) ?_
    refine V_regionX Γ Δ [] [0, 1, 4, 5, 6, 8, 14, 42] (evs ?_)
    all_goals (try with_reducible (repeat' (first | apply And.intro | intro _)))
    all_goals (try (first | with_reducible refine wa_id ?_ | exact True.intro | omega))
    refine V_cond (evs ?_)
    refine ⟨fun hc => ?_, fun hc => ?_⟩
    · refine WA_seq (x := (fcd Tryz.f65 [1, 1, 0, 1, 0, 0])) (y := (fcd Tryz.f65 [1, 1, 0, 1, 0, 1])) ?_
      refine V_regionX Γ Δ [] [0, 1, 4, 5, 6, 8, 14, 42] (evs ?_)
      all_goals (try with_reducible (repeat' (first | apply And.intro | intro _)))
      all_goals (try (first | with_reducible refine wa_id ?_ | exact True.intro | omega))
      refine V_ret (evs ?_)
      first | (exfalso; omega) | exact dv0 hc | exact dw1z h1 h2 h3 h4 hc | exact dw2z h1 h2 h3 h4 ‹_› hc
    · refine WA_skip ?_
      refine WA_seq (x := (fcd Tryz.f65 [1, 1, 1, 0])) (y := (fcd Tryz.f65 [1, 1, 1, 1])) ?_
      refine V_regionX Γ Δ [] [0, 1, 4, 5, 6, 8, 14, 42] (evs ?_)
      all_goals (try with_reducible (repeat' (first | apply And.intro | intro _)))
      all_goals (try (first | with_reducible refine wa_id ?_ | exact True.intro | exact floor_fn _ _ (by omega) (by omega) | omega))
      refine WA_seq (x := (fcd Tryz.f65 [1, 1, 1, 1, 0])) (y := (fcd Tryz.f65 [1, 1, 1, 1, 1])) ?_
      refine V_regionX Γ Δ [] [0, 1, 4, 5, 6, 8, 14, 42] (evs ?_)
      all_goals (try with_reducible (repeat' (first | apply And.intro | intro _)))
      all_goals (try (first | with_reducible refine wa_id ?_ | exact True.intro | omega))
      refine WA_seq (x := (fcd Tryz.f65 [1, 1, 1, 1, 1, 0])) (y := (fcd Tryz.f65 [1, 1, 1, 1, 1, 1])) ?_
      refine WA_seq (x := (fcd Tryz.f65 [1, 1, 1, 1, 1, 0, 0])) (y := (fcd Tryz.f65 [1, 1, 1, 1, 1, 0, 1])) ?_
      refine V_regionX Γ Δ [] [0, 1, 4, 5, 6, 8, 14, 42] (evs ?_)
      all_goals (try with_reducible (repeat' (first | apply And.intro | intro _)))
      all_goals (try (first | with_reducible refine wa_id ?_ | exact True.intro | omega))
      refine V_cond (evs ?_)
      refine ⟨fun hc => ?_, fun hc => ?_⟩
      · refine V_regionX Γ Δ [] [0, 1, 4, 5, 6, 8, 14, 42] (evs ?_)
        all_goals (try with_reducible (repeat' (first | apply And.intro | intro _)))
        all_goals (try (first | with_reducible refine wa_id ?_ | exact True.intro | omega))
        refine WA_seq (x := (fcd Tryz.f65 [1, 1, 1, 1, 1, 1, 0])) (y := (fcd Tryz.f65 [1, 1, 1, 1, 1, 1, 1])) ?_
        refine V_regionX Γ Δ [] [0, 1, 4, 5, 6, 8, 14, 42] (evs ?_)
        all_goals (try with_reducible (repeat' (first | apply And.intro | intro _)))
        all_goals (try (first | with_reducible refine wa_id ?_ | exact True.intro | omega))
        refine V_ret (evs ?_)
        first | (exfalso; omega) | exact dv0 hc | exact dw1z h1 h2 h3 h4 hc | exact dw2z h1 h2 h3 h4 ‹_› hc
      · refine WA_skip ?_
        refine WA_seq (x := (fcd Tryz.f65 [1, 1, 1, 1, 1, 1, 0])) (y := (fcd Tryz.f65 [1, 1, 1, 1, 1, 1, 1])) ?_
        refine V_regionX Γ Δ [] [0, 1, 4, 5, 6, 8, 14, 42] (evs ?_)
        all_goals (try with_reducible (repeat' (first | apply And.intro | intro _)))
        all_goals (try (first | with_reducible refine wa_id ?_ | exact True.intro | omega))
        refine V_ret (evs ?_)
        first | (exfalso; omega) | exact dv0 hc | exact dw1z h1 h2 h3 h4 hc | exact dw2z h1 h2 h3 h4 ‹_› hc

theorem clamp_fn (a b c : Int) : Eng.Fn Tryz.prog 89 [.i a, .i b, .i c] (.dat (.i (clampI a b c))) := by
  refine Eng.Fn.by (fn := Tryz.f89) 12 [.tmp 6] Tryz.func89 rfl Tryz.ntmps89 rfl (by simp) fun w0 G0 => ?_
  refine WA_seq (x := (fcd Tryz.f89 [0])) (y := (fcd Tryz.f89 [1])) ?_
  refine V_regionX Γ Δ [] [0, 1, 2, 6] (evs ?_)
  all_goals (try with_reducible (repeat' (first | apply And.intro | intro _)))
  all_goals (try (first | with_reducible refine wa_id ?_ | exact True.intro | omega))
  refine WA_seq (x := (fcd Tryz.f89 [1, 0])) (y := (fcd Tryz.f89 [1, 1])) ?_
  refine V_regionX Γ Δ [] [0, 1, 2, 6] (evs ?_)
  all_goals (try with_reducible (repeat' (first | apply And.intro | intro _)))
  all_goals (try (first | with_reducible refine wa_id ?_ | exact True.intro | omega))
  refine V_ret (evs ?_)
  rfl

theorem rclamp_fn (a b c : Int) : Eng.Fn Tryz.prog 79 [.i a, .i b, .i c] (.dat (.i (clampI a b c))) := by
  refine Eng.Fn.by (fn := Tryz.f79) 12 [.tmp 6] Tryz.func79 rfl Tryz.ntmps79 rfl (by simp) fun w0 G0 => ?_
  refine WA_seq (x := (fcd Tryz.f79 [0])) (y := (fcd Tryz.f79 [1])) ?_
  refine V_regionX Γ Δ [] [0, 1, 2, 6] (evs ?_)
  all_goals (try with_reducible (repeat' (first | apply And.intro | intro _)))
  all_goals (try (first | with_reducible refine wa_id ?_ | exact True.intro | omega))
  refine WA_seq (x := (fcd Tryz.f79 [1, 0])) (y := (fcd Tryz.f79 [1, 1])) ?_
  refine V_regionX Γ Δ [] [0, 1, 2, 6] (evs ?_)
  all_goals (try with_reducible (repeat' (first | apply And.intro | intro _)))
  all_goals (try (first | with_reducible refine wa_id ?_ | exact True.intro | omega))
  refine V_ret (evs ?_)
  rfl

theorem punit_fn (a : Int) : Eng.Fn Tryz.prog 87 [.i a] (.dat (.i (unitI a))) := by
  refine Eng.Fn.by (fn := Tryz.f87) 5 [.tmp 2] Tryz.func87 rfl Tryz.ntmps87 rfl (by simp) fun w0 G0 => ?_
  refine WA_seq (x := (fcd Tryz.f87 [0])) (y := (fcd Tryz.f87 [1])) ?_
  refine V_regionX Γ Δ [] [0, 2] (evs ?_)
  all_goals (try with_reducible (repeat' (first | apply And.intro | intro _)))
  all_goals (try (first | with_reducible refine wa_id ?_ | exact True.intro | omega))
  refine WA_seq (x := (fcd Tryz.f87 [1, 0])) (y := (fcd Tryz.f87 [1, 1])) ?_
  refine V_regionX Γ Δ [] [0, 2] (evs ?_)
  all_goals (try with_reducible (repeat' (first | apply And.intro | intro _)))
  all_goals (try (first | with_reducible refine wa_id ?_ | exact True.intro | exact clamp_fn _ _ _ | omega))
  refine V_ret (evs ?_)
  rfl

theorem rpunit_fn (a : Int) : Eng.Fn Tryz.prog 95 [.i a] (.dat (.i (unitI a))) := by
  refine Eng.Fn.by (fn := Tryz.f95) 5 [.tmp 2] Tryz.func95 rfl Tryz.ntmps95 rfl (by simp) fun w0 G0 => ?_
  refine WA_seq (x := (fcd Tryz.f95 [0])) (y := (fcd Tryz.f95 [1])) ?_
  refine V_regionX Γ Δ [] [0, 2] (evs ?_)
  all_goals (try with_reducible (repeat' (first | apply And.intro | intro _)))
  all_goals (try (first | with_reducible refine wa_id ?_ | exact True.intro | omega))
  refine WA_seq (x := (fcd Tryz.f95 [1, 0])) (y := (fcd Tryz.f95 [1, 1])) ?_
  refine V_regionX Γ Δ [] [0, 2] (evs ?_)
  all_goals (try with_reducible (repeat' (first | apply And.intro | intro _)))
  all_goals (try (first | with_reducible refine wa_id ?_ | exact True.intro | exact rclamp_fn _ _ _ | omega))
  refine V_ret (evs ?_)
  rfl

theorem plimit_fn (p : Px) : Eng.Fn Tryz.prog 61 [pxD p] (.dat (pxD (limP p))) := by
  refine Eng.Fn.by (fn := Tryz.f61) 16 [.cell 2 49] Tryz.func61 rfl Tryz.ntmps61 rfl (by simp) fun w0 G0 => ?_
  refine WA_seq (x := (fcd Tryz.f61 [0])) (y := (fcd Tryz.f61 [1])) ?_
  refine V_regionX Γ Δ [] [0, 1, 2] (evs ?_)
  all_goals (try with_reducible (repeat' (first | apply And.intro | intro _)))
  all_goals (try (first | with_reducible refine wa_id ?_ | exact True.intro | omega))
  refine WA_seq (x := (fcd Tryz.f61 [1, 0])) (y := (fcd Tryz.f61 [1, 1])) ?_
  refine V_draw Γ [] [0, 1, 2] mixed (by kernel_rfl) (evs ?_)
  all_goals (try with_reducible (repeat' (first | apply And.intro | intro _)))
  all_goals (try (first | with_reducible refine wa_id ?_ | exact True.intro | exact punit_fn _ | omega))
  refine V_ret (evs ?_)
  exact ⟨rfl, rfl, rfl, rfl⟩

theorem rlimit_fn (p : Px) : Eng.Fn Tryz.prog 73 [pxD p] (.dat (pxD (limP p))) := by
  refine Eng.Fn.by (fn := Tryz.f73) 16 [.cell 2 49] Tryz.func73 rfl Tryz.ntmps73 rfl (by simp) fun w0 G0 => ?_
  refine WA_seq (x := (fcd Tryz.f73 [0])) (y := (fcd Tryz.f73 [1])) ?_
  refine V_regionX Γ Δ [] [0, 1, 2] (evs ?_)
  all_goals (try with_reducible (repeat' (first | apply And.intro | intro _)))
  all_goals (try (first | with_reducible refine wa_id ?_ | exact True.intro | omega))
  refine WA_seq (x := (fcd Tryz.f73 [1, 0])) (y := (fcd Tryz.f73 [1, 1])) ?_
  refine V_draw Γ [] [0, 1, 2] mixed (by kernel_rfl) (evs ?_)
  all_goals (try with_reducible (repeat' (first | apply And.intro | intro _)))
  all_goals (try (first | with_reducible refine wa_id ?_ | exact True.intro | exact rpunit_fn _ | omega))
  refine V_ret (evs ?_)
  exact ⟨rfl, rfl, rfl, rfl⟩

theorem pvalid6_fn (p : Px) : Eng.Fn Tryz.prog 23 [pxD p] (.dat (.b (validP p))) := by
  refine Eng.Fn.by (fn := Tryz.f23) 7 [.tmp 2] Tryz.func23 rfl Tryz.ntmps23 rfl (by simp) fun w0 G0 => ?_
  refine WA_seq (x := (fcd Tryz.f23 [0])) (y := (fcd Tryz.f23 [1])) ?_
  refine V_regionX Γ Δ [] [0, 1, 2] (evs ?_)
  all_goals (try with_reducible (repeat' (first | apply And.intro | intro _)))
  all_goals (try (first | with_reducible refine wa_id ?_ | exact True.intro | omega))
  refine WA_seq (x := (fcd Tryz.f23 [1, 0])) (y := (fcd Tryz.f23 [1, 1])) ?_
  refine V_draw Γ [] [0, 1, 2] mixed (by kernel_rfl) (evs ?_)
  all_goals (try with_reducible (repeat' (first | apply And.intro | intro _)))
  all_goals (try (first | with_reducible refine wa_id ?_ | exact True.intro | exact plimit_fn _ | omega))
  refine V_ret (evs ?_)
  first | exact vp1 p | exact vp2 p

theorem rvalid6_fn (p : Px) : Eng.Fn Tryz.prog 40 [pxD p] (.dat (.b (validP p))) := by
  refine Eng.Fn.by (fn := Tryz.f40) 7 [.tmp 2] Tryz.func40 rfl Tryz.ntmps40 rfl (by simp) fun w0 G0 => ?_
  refine WA_seq (x := (fcd Tryz.f40 [0])) (y := (fcd Tryz.f40 [1])) ?_
  refine V_regionX Γ Δ [] [0, 1, 2] (evs ?_)
  all_goals (try with_reducible (repeat' (first | apply And.intro | intro _)))
  all_goals (try (first | with_reducible refine wa_id ?_ | exact True.intro | omega))
  refine WA_seq (x := (fcd Tryz.f40 [1, 0])) (y := (fcd Tryz.f40 [1, 1])) ?_
  refine V_draw Γ [] [0, 1, 2] mixed (by kernel_rfl) (evs ?_)
  all_goals (try with_reducible (repeat' (first | apply And.intro | intro _)))
  all_goals (try (first | with_reducible refine wa_id ?_ | exact True.intro | exact rlimit_fn _ | omega))
  refine V_ret (evs ?_)
  first | exact vp1 p | exact vp2 p

end Go.S16

