import Derived.Test.YtgkflbibpkkegaaGreatDoorF35
set_option linter.unusedSimpArgs false
set_option linter.unusedVariables false
set_option linter.unusedSimpArgs false
set_option linter.unusedVariables false
namespace Go.S35
open Go.RowKit Go.Proofs Go.Eng Go.Rect
theorem span_fn (x w : Int) : Eng.Fn Tryz.prog 44 [.i x, .i w] (.dat (.b (spanB x w))) := by
  refine Eng.Fn.by (fn := Tryz.f44) 21 [.tmp 4] Tryz.func44 rfl Tryz.ntmps44 rfl (by simp) fun w0 G0 => ?_
  refine WA_seq (x := (fcd Tryz.f44 [0])) (y := (fcd Tryz.f44 [1])) ?_
  refine V_regionX Γ Δ [] [0, 1, 4] (evs ?_)
  all_goals (try with_reducible (repeat' (first | apply And.intro | intro _)))
  all_goals (try (first | with_reducible refine wa_id ?_ | exact True.intro | omega))
  refine WA_seq (x := (fcd Tryz.f44 [1, 0])) (y := (fcd Tryz.f44 [1, 1])) ?_
  refine V_regionX Γ Δ [] [0, 1, 4] (evs ?_)
  all_goals (try with_reducible (repeat' (first | apply And.intro | intro _)))
  all_goals (try (first | with_reducible refine wa_id ?_ | exact True.intro | omega))
  refine V_ret (evs ?_)
  rw [Bool.eq_iff_iff]; simp only [spanB, Bool.and_eq_true, decide_eq_true_eq]
  constructor
  all_goals (intro ⟨⟨⟨h1, h2⟩, h3⟩, h4⟩; rw [w64 (by omega) (by omega)] at *; exact ⟨⟨⟨h1, h2⟩, h3⟩, h4⟩)

theorem valid_fn (r : Rc) : Eng.Fn Tryz.prog 26 [rcD r] (.dat (.b (validB r))) := by
  refine Eng.Fn.by (fn := Tryz.f26) 15 [.tmp 2] Tryz.func26 rfl Tryz.ntmps26 rfl (by simp) fun w0 G0 => ?_
  refine WA_seq (x := (fcd Tryz.f26 [0])) (y := (fcd Tryz.f26 [1])) ?_
  refine V_regionX Γ Δ [] [0, 1, 2] (evs ?_)
  all_goals (try with_reducible (repeat' (first | apply And.intro | intro _)))
  all_goals (try (first | with_reducible refine wa_id ?_ | exact True.intro | omega))
  refine WA_seq (x := (fcd Tryz.f26 [1, 0])) (y := (fcd Tryz.f26 [1, 1])) ?_
  refine V_regionX Γ Δ [] [0, 1, 2] (evs ?_)
  all_goals (try with_reducible (repeat' (first | apply And.intro | intro _)))
  all_goals (try (first | with_reducible refine wa_id ?_ | exact True.intro | exact span_fn _ _ | omega))
  refine V_ret (evs ?_)
  rfl

theorem empty_fn (r : Rc) : Eng.Fn Tryz.prog 27 [rcD r] (.dat (.b (emptyB r))) := by
  refine Eng.Fn.by (fn := Tryz.f27) 16 [.tmp 2] Tryz.func27 rfl Tryz.ntmps27 rfl (by simp) fun w0 G0 => ?_
  refine WA_seq (x := (fcd Tryz.f27 [0])) (y := (fcd Tryz.f27 [1])) ?_
  refine V_regionX Γ Δ [] [0, 1, 2] (evs ?_)
  all_goals (try with_reducible (repeat' (first | apply And.intro | intro _)))
  all_goals (try (first | with_reducible refine wa_id ?_ | exact True.intro | omega))
  refine WA_seq (x := (fcd Tryz.f27 [1, 0])) (y := (fcd Tryz.f27 [1, 1])) ?_
  refine V_regionX Γ Δ [] [0, 1, 2] (evs ?_)
  all_goals (try with_reducible (repeat' (first | apply And.intro | intro _)))
  all_goals (try (first | with_reducible refine wa_id ?_ | exact True.intro | exact valid_fn _ | omega))
  refine V_ret (evs ?_)
  rfl

theorem between_fn (x0 y0 x1 y1 : Int) : Eng.Fn Tryz.prog 45 [.i x0, .i y0, .i x1, .i y1] (.dat (rcD (betweenR x0 y0 x1 y1))) := by
  refine Eng.Fn.by (fn := Tryz.f45) 35 [.cell 8 23] Tryz.func45 rfl Tryz.ntmps45 rfl (by simp) fun w0 G0 => ?_
  refine WA_seq (x := (fcd Tryz.f45 [0])) (y := (fcd Tryz.f45 [1])) ?_
  refine V_regionX Γ Δ [] [0, 1, 2, 3, 8, 24] (evs ?_)
  all_goals (try with_reducible (repeat' (first | apply And.intro | intro _)))
  all_goals (try (first | with_reducible refine wa_id ?_ | exact True.intro | omega))
  refine WA_seq (x := (fcd Tryz.f45 [1, 0])) (y := (fcd Tryz.f45 [1, 1])) ?_
  refine V_regionX Γ Δ [] [0, 1, 2, 3, 8, 24] (evs ?_)
  all_goals (try with_reducible (repeat' (first | apply And.intro | intro _)))
  all_goals (try (first | with_reducible refine wa_id ?_ | exact True.intro | omega))
  refine WA_seq (x := (fcd Tryz.f45 [1, 1, 0])) (y := (fcd Tryz.f45 [1, 1, 1])) ?_
  refine V_regionX Γ Δ [] [0, 1, 2, 3, 8, 24] (evs ?_)
  all_goals (try with_reducible (repeat' (first | apply And.intro | intro _)))
  all_goals (try (first | with_reducible refine wa_id ?_ | exact True.intro | omega))
  refine WA_seq (x := (fcd Tryz.f45 [1, 1, 1, 0])) (y := (fcd Tryz.f45 [1, 1, 1, 1])) ?_
  refine WA_seq (x := (fcd Tryz.f45 [1, 1, 1, 0, 0])) (y := (fcd Tryz.f45 [1, 1, 1, 0, 1])) ?_
  refine V_regionX Γ Δ [] [0, 1, 2, 3, 8, 24] (evs ?_)
  all_goals (try with_reducible (repeat' (first | apply And.intro | intro _)))
  all_goals (try (first | with_reducible refine wa_id ?_ | exact True.intro | omega))
  refine V_cond (evs ?_)
  refine ⟨fun hc => ?_, fun hc => ?_⟩
  · refine WA_seq (x := (fcd Tryz.f45 [1, 1, 1, 0, 1, 0, 0])) (y := (fcd Tryz.f45 [1, 1, 1, 0, 1, 0, 1])) ?_
    refine V_regionX Γ Δ [] [0, 1, 2, 3, 8, 24] (evs ?_)
    all_goals (try with_reducible (repeat' (first | apply And.intro | intro _)))
    all_goals (try (first | with_reducible refine wa_id ?_ | exact True.intro | omega))
    refine V_ret (evs ?_)
    first | exact fe (r := zR) (fin_b1 hc) | exact fe (fin_b2 hc)
  · refine WA_skip ?_
    refine WA_seq (x := (fcd Tryz.f45 [1, 1, 1, 1, 0])) (y := (fcd Tryz.f45 [1, 1, 1, 1, 1])) ?_
    refine V_regionX Γ Δ [] [0, 1, 2, 3, 8, 24] (evs ?_)
    all_goals (try with_reducible (repeat' (first | apply And.intro | intro _)))
    all_goals (try (first | with_reducible refine wa_id ?_ | exact True.intro | omega))
    refine V_ret (evs ?_)
    first | exact fe (r := zR) (fin_b1 hc) | exact fe (fin_b2 hc)

set_option maxRecDepth 100000 in
theorem within_fn (a b : Rc) : Eng.Fn Tryz.prog 28 [rcD a, rcD b] (.dat (.b (withinB a b))) := by
  refine Eng.Fn.by (fn := Tryz.f28) 47 [.tmp 4] Tryz.func28 rfl Tryz.ntmps28 rfl (by simp) fun w0 G0 => ?_
  refine WA_seq (x := (fcd Tryz.f28 [0])) (y := (fcd Tryz.f28 [1])) ?_
  refine V_regionX Γ Δ [] [0, 1, 2, 3, 4, 6, 8] (evs ?_)
  all_goals (try with_reducible (repeat' (first | apply And.intro | intro _)))
  all_goals (try (first | with_reducible refine wa_id ?_ | exact True.intro | omega))
  refine WA_seq (x := (fcd Tryz.f28 [1, 0])) (y := (fcd Tryz.f28 [1, 1])) ?_
  refine WA_seq (x := (fcd Tryz.f28 [1, 0, 0])) (y := (fcd Tryz.f28 [1, 0, 1])) ?_
  refine V_regionX Γ Δ [] [0, 1, 2, 3, 4, 6, 8] (evs ?_)
  all_goals (try with_reducible (repeat' (first | apply And.intro | intro _)))
  all_goals (try (first | with_reducible refine wa_id ?_ | exact True.intro | exact empty_fn _ | omega))
  refine V_cond (evs ?_)
  refine ⟨fun hc => ?_, fun hc => ?_⟩
  · refine WA_seq (x := (fcd Tryz.f28 [1, 0, 1, 0, 0])) (y := (fcd Tryz.f28 [1, 0, 1, 0, 1])) ?_
    refine V_regionX Γ Δ [] [0, 1, 2, 3, 4, 6, 8] (evs ?_)
    all_goals (try with_reducible (repeat' (first | apply And.intro | intro _)))
    all_goals (try (first | with_reducible refine wa_id ?_ | exact True.intro | omega))
    refine V_ret (evs ?_)
    first | exact fin_w1 hc | exact fin_w2 ‹_› hc | exact fin_w3 ‹_› hc
  · refine WA_skip ?_
    refine WA_seq (x := (fcd Tryz.f28 [1, 1, 0])) (y := (fcd Tryz.f28 [1, 1, 1])) ?_
    refine WA_seq (x := (fcd Tryz.f28 [1, 1, 0, 0])) (y := (fcd Tryz.f28 [1, 1, 0, 1])) ?_
    refine V_regionX Γ Δ [] [0, 1, 2, 3, 4, 6, 8] (evs ?_)
    all_goals (try with_reducible (repeat' (first | apply And.intro | intro _)))
    all_goals (try (first | with_reducible refine wa_id ?_ | exact True.intro | exact empty_fn _ | omega))
    refine V_cond (evs ?_)
    refine ⟨fun hc => ?_, fun hc => ?_⟩
    · refine WA_seq (x := (fcd Tryz.f28 [1, 1, 0, 1, 0, 0])) (y := (fcd Tryz.f28 [1, 1, 0, 1, 0, 1])) ?_
      refine V_regionX Γ Δ [] [0, 1, 2, 3, 4, 6, 8] (evs ?_)
      all_goals (try with_reducible (repeat' (first | apply And.intro | intro _)))
      all_goals (try (first | with_reducible refine wa_id ?_ | exact True.intro | omega))
      refine V_ret (evs ?_)
      first | exact fin_w1 hc | exact fin_w2 ‹_› hc | exact fin_w3 ‹_› hc
    · refine WA_skip ?_
      refine WA_seq (x := (fcd Tryz.f28 [1, 1, 1, 0])) (y := (fcd Tryz.f28 [1, 1, 1, 1])) ?_
      refine V_regionX Γ Δ [] [0, 1, 2, 3, 4, 6, 8] (evs ?_)
      all_goals (try with_reducible (repeat' (first | apply And.intro | intro _)))
      all_goals (try (first | with_reducible refine wa_id ?_ | exact True.intro | omega))
      refine V_ret (evs ?_)
      first | exact fin_w1 hc | exact fin_w2 ‹_› hc | exact fin_w3 ‹_› hc

theorem meet_fn (a b : Rc) : Eng.Fn Tryz.prog 29 [rcD a, rcD b] (.dat (rcD (meetR a b))) := by
  refine Eng.Fn.by (fn := Tryz.f29) 45 [.cell 4 23] Tryz.func29 rfl Tryz.ntmps29 rfl (by simp) fun w0 G0 => ?_
  refine WA_seq (x := (fcd Tryz.f29 [0])) (y := (fcd Tryz.f29 [1])) ?_
  refine V_regionX Γ Δ [] [0, 1, 2, 3, 4, 10] (evs ?_)
  all_goals (try with_reducible (repeat' (first | apply And.intro | intro _)))
  all_goals (try (first | with_reducible refine wa_id ?_ | exact True.intro | omega))
  refine WA_seq (x := (fcd Tryz.f29 [1, 0])) (y := (fcd Tryz.f29 [1, 1])) ?_
  refine WA_seq (x := (fcd Tryz.f29 [1, 0, 0])) (y := (fcd Tryz.f29 [1, 0, 1])) ?_
  refine V_regionX Γ Δ [] [0, 1, 2, 3, 4, 10] (evs ?_)
  all_goals (try with_reducible (repeat' (first | apply And.intro | intro _)))
  all_goals (try (first | with_reducible refine wa_id ?_ | exact True.intro | exact empty_fn _ | omega))
  refine V_cond (evs ?_)
  refine ⟨fun hc => ?_, fun hc => ?_⟩
  · refine WA_seq (x := (fcd Tryz.f29 [1, 0, 1, 0, 0])) (y := (fcd Tryz.f29 [1, 0, 1, 0, 1])) ?_
    refine V_regionX Γ Δ [] [0, 1, 2, 3, 4, 10] (evs ?_)
    all_goals (try with_reducible (repeat' (first | apply And.intro | intro _)))
    all_goals (try (first | with_reducible refine wa_id ?_ | exact True.intro | omega))
    refine V_ret (evs ?_)
    first | exact fe (r := zR) (fin_m1 hc) | exact fe (fin_m2 hc)
  · refine WA_skip ?_
    refine WA_seq (x := (fcd Tryz.f29 [1, 1, 0])) (y := (fcd Tryz.f29 [1, 1, 1])) ?_
    refine V_regionX Γ Δ [] [0, 1, 2, 3, 4, 10] (evs ?_)
    all_goals (try with_reducible (repeat' (first | apply And.intro | intro _)))
    all_goals (try (first | with_reducible refine wa_id ?_ | exact True.intro | exact between_fn _ _ _ _ | omega))
    refine V_ret (evs ?_)
    first | exact fe (r := zR) (fin_m1 hc) | exact fe (fin_m2 hc)

theorem tileR_fn (p : Pt) : Eng.Fn Tryz.prog 50 [ptD p] (.dat (rcD (ofTileR p))) := by
  refine Eng.Fn.by (fn := Tryz.f50) 29 [.cell 2 23] Tryz.func50 rfl Tryz.ntmps50 rfl (by simp) fun w0 G0 => ?_
  refine WA_seq (x := (fcd Tryz.f50 [0])) (y := (fcd Tryz.f50 [1])) ?_
  refine V_regionX Γ Δ [] [0, 1, 2, 20] (evs ?_)
  all_goals (try with_reducible (repeat' (first | apply And.intro | intro _)))
  all_goals (try (first | with_reducible refine wa_id ?_ | exact True.intro | omega))
  refine WA_seq (x := (fcd Tryz.f50 [1, 0])) (y := (fcd Tryz.f50 [1, 1])) ?_
  refine WA_seq (x := (fcd Tryz.f50 [1, 0, 0])) (y := (fcd Tryz.f50 [1, 0, 1])) ?_
  refine V_regionX Γ Δ [] [0, 1, 2, 20] (evs ?_)
  all_goals (try with_reducible (repeat' (first | apply And.intro | intro _)))
  all_goals (try (first | with_reducible refine wa_id ?_ | exact True.intro | omega))
  refine V_cond (evs ?_)
  refine ⟨fun hc => ?_, fun hc => ?_⟩
  · refine WA_seq (x := (fcd Tryz.f50 [1, 0, 1, 0, 0])) (y := (fcd Tryz.f50 [1, 0, 1, 0, 1])) ?_
    refine V_regionX Γ Δ [] [0, 1, 2, 20] (evs ?_)
    all_goals (try with_reducible (repeat' (first | apply And.intro | intro _)))
    all_goals (try (first | with_reducible refine wa_id ?_ | exact True.intro | omega))
    refine V_ret (evs ?_)
    try simp only [wm] at hc
    first | exact fe (r := zR) (fin_ot1 hc) | exact fe (fin_ot2 hc)
  · refine WA_skip ?_
    refine WA_seq (x := (fcd Tryz.f50 [1, 1, 0])) (y := (fcd Tryz.f50 [1, 1, 1])) ?_
    refine V_regionX Γ Δ [] [0, 1, 2, 20] (evs ?_)
    all_goals (try with_reducible (repeat' (first | apply And.intro | intro _)))
    all_goals (try (first | with_reducible refine wa_id ?_ | exact True.intro | omega))
    refine V_ret (evs ?_)
    try simp only [wm] at hc
    first | exact fe (r := zR) (fin_ot1 hc) | exact fe (fin_ot2 hc)

theorem rvalid_fn (r : Rc) : Eng.Fn Tryz.prog 30 [rcD r] (.dat (.b (validB r))) := by
  refine Eng.Fn.by (fn := Tryz.f30) 45 [.tmp 2] Tryz.func30 rfl Tryz.ntmps30 rfl (by simp) fun w0 G0 => ?_
  refine WA_seq (x := (fcd Tryz.f30 [0])) (y := (fcd Tryz.f30 [1])) ?_
  refine V_regionX Γ Δ [] [0, 1, 2, 20] (evs ?_)
  all_goals (try with_reducible (repeat' (first | apply And.intro | intro _)))
  all_goals (try (first | with_reducible refine wa_id ?_ | exact True.intro | omega))
  refine WA_seq (x := (fcd Tryz.f30 [1, 0])) (y := (fcd Tryz.f30 [1, 1])) ?_
  refine WA_seq (x := (fcd Tryz.f30 [1, 0, 0])) (y := (fcd Tryz.f30 [1, 0, 1])) ?_
  refine V_regionX Γ Δ [] [0, 1, 2, 20] (evs ?_)
  all_goals (try with_reducible (repeat' (first | apply And.intro | intro _)))
  all_goals (try (first | with_reducible refine wa_id ?_ | exact True.intro | omega))
  refine V_cond (evs ?_)
  refine ⟨fun hc => ?_, fun hc => ?_⟩
  · refine WA_seq (x := (fcd Tryz.f30 [1, 0, 1, 0, 0])) (y := (fcd Tryz.f30 [1, 0, 1, 0, 1])) ?_
    refine V_regionX Γ Δ [] [0, 1, 2, 20] (evs ?_)
    all_goals (try with_reducible (repeat' (first | apply And.intro | intro _)))
    all_goals (try (first | with_reducible refine wa_id ?_ | exact True.intro | omega))
    refine V_ret (evs ?_)
    all_goals (first | exact fin_rv1 hc | exact fin_rv2 hc)
  · refine WA_skip ?_
    refine WA_seq (x := (fcd Tryz.f30 [1, 1, 0])) (y := (fcd Tryz.f30 [1, 1, 1])) ?_
    refine V_regionX Γ Δ [] [0, 1, 2, 20] (evs ?_)
    all_goals (try with_reducible (repeat' (first | apply And.intro | intro _)))
    all_goals (try (first | with_reducible refine wa_id ?_ | exact True.intro | omega))
    refine V_ret (evs ?_)
    all_goals (first | exact fin_rv1 hc | exact fin_rv2 hc)

theorem rempty_fn (r : Rc) : Eng.Fn Tryz.prog 21 [rcD r] (.dat (.b (emptyB r))) := by
  refine Eng.Fn.by (fn := Tryz.f21) 16 [.tmp 2] Tryz.func21 rfl Tryz.ntmps21 rfl (by simp) fun w0 G0 => ?_
  refine WA_seq (x := (fcd Tryz.f21 [0])) (y := (fcd Tryz.f21 [1])) ?_
  refine V_regionX Γ Δ [] [0, 1, 2] (evs ?_)
  all_goals (try with_reducible (repeat' (first | apply And.intro | intro _)))
  all_goals (try (first | with_reducible refine wa_id ?_ | exact True.intro | omega))
  refine WA_seq (x := (fcd Tryz.f21 [1, 0])) (y := (fcd Tryz.f21 [1, 1])) ?_
  refine V_regionX Γ Δ [] [0, 1, 2] (evs ?_)
  all_goals (try with_reducible (repeat' (first | apply And.intro | intro _)))
  all_goals (try (first | with_reducible refine wa_id ?_ | exact True.intro | exact rvalid_fn _ | omega))
  refine V_ret (evs ?_)
  rfl

theorem rspan_fn (r : Rc) (n : Int) : Eng.Fn Tryz.prog 46 [rcD r, .i n] (.tup [.dat (.i (spanS r n)), .dat (.i (spanE r n))]) := by
  refine Eng.Fn.by (fn := Tryz.f46) 37 [.tmp 4, .tmp 5] Tryz.func46 rfl Tryz.ntmps46 rfl (by simp) fun w0 G0 => ?_
  refine WA_seq (x := (fcd Tryz.f46 [0])) (y := (fcd Tryz.f46 [1])) ?_
  refine V_regionX Γ Δ [] [0, 1, 2, 4, 5, 18, 20] (evs ?_)
  all_goals (try with_reducible (repeat' (first | apply And.intro | intro _)))
  all_goals (try (first | with_reducible refine wa_id ?_ | exact True.intro | omega))
  refine WA_seq (x := (fcd Tryz.f46 [1, 0])) (y := (fcd Tryz.f46 [1, 1])) ?_
  refine WA_seq (x := (fcd Tryz.f46 [1, 0, 0])) (y := (fcd Tryz.f46 [1, 0, 1])) ?_
  refine V_regionX Γ Δ [] [0, 1, 2, 4, 5, 18, 20] (evs ?_)
  all_goals (try with_reducible (repeat' (first | apply And.intro | intro _)))
  all_goals (try (first | with_reducible refine wa_id ?_ | exact True.intro | exact rvalid_fn _ | omega))
  refine V_cond (evs ?_)
  refine ⟨fun hc => ?_, fun hc => ?_⟩
  · refine WA_seq (x := (fcd Tryz.f46 [1, 0, 1, 0, 0])) (y := (fcd Tryz.f46 [1, 0, 1, 0, 1])) ?_
    refine V_regionX Γ Δ [] [0, 1, 2, 4, 5, 18, 20] (evs ?_)
    all_goals (try with_reducible (repeat' (first | apply And.intro | intro _)))
    all_goals (try (first | with_reducible refine wa_id ?_ | exact True.intro | omega))
    refine V_ret (evs ?_)
    first | exact fin_sp1 hc | exact fin_sp2 ‹_› hc | exact fin_sp3 ‹_› hc
  · refine WA_skip ?_
    refine WA_seq (x := (fcd Tryz.f46 [1, 1, 0])) (y := (fcd Tryz.f46 [1, 1, 1])) ?_
    refine WA_seq (x := (fcd Tryz.f46 [1, 1, 0, 0])) (y := (fcd Tryz.f46 [1, 1, 0, 1])) ?_
    refine V_regionX Γ Δ [] [0, 1, 2, 4, 5, 18, 20] (evs ?_)
    all_goals (try with_reducible (repeat' (first | apply And.intro | intro _)))
    all_goals (try (first | with_reducible refine wa_id ?_ | exact True.intro | omega))
    refine V_cond (evs ?_)
    refine ⟨fun hc => ?_, fun hc => ?_⟩
    · refine WA_seq (x := (fcd Tryz.f46 [1, 1, 0, 1, 0, 0])) (y := (fcd Tryz.f46 [1, 1, 0, 1, 0, 1])) ?_
      refine V_draw Γ [] [0, 1, 2, 4, 5, 18, 20] mixed (by kernel_rfl) (evs ?_)
      all_goals (try with_reducible (repeat' (first | apply And.intro | intro _)))
      all_goals (try (first | with_reducible refine wa_id ?_ | exact True.intro | omega))
      refine V_ret (evs ?_)
      first | exact fin_sp1 hc | exact fin_sp2 ‹_› hc | exact fin_sp3 ‹_› hc
    · refine WA_skip ?_
      refine WA_seq (x := (fcd Tryz.f46 [1, 1, 1, 0])) (y := (fcd Tryz.f46 [1, 1, 1, 1])) ?_
      refine V_draw Γ [] [0, 1, 2, 4, 5, 18, 20] mixed (by kernel_rfl) (evs ?_)
      all_goals (try with_reducible (repeat' (first | apply And.intro | intro _)))
      all_goals (try (first | with_reducible refine wa_id ?_ | exact True.intro | omega))
      refine V_ret (evs ?_)
      first | exact fin_sp1 hc | exact fin_sp2 ‹_› hc | exact fin_sp3 ‹_› hc

theorem rhas_fn (r : Rc) (p : Pt) : Eng.Fn Tryz.prog 47 [rcD r, ptD p] (.dat (.b (hasB r p))) := by
  refine Eng.Fn.by (fn := Tryz.f47) 41 [.tmp 4] Tryz.func47 rfl Tryz.ntmps47 rfl (by simp) fun w0 G0 => ?_
  refine WA_seq (x := (fcd Tryz.f47 [0])) (y := (fcd Tryz.f47 [1])) ?_
  refine V_regionX Γ Δ [] [0, 1, 2, 3, 4, 5, 6, 7, 8] (evs ?_)
  all_goals (try with_reducible (repeat' (first | apply And.intro | intro _)))
  all_goals (try (first | with_reducible refine wa_id ?_ | exact True.intro | omega))
  refine WA_seq (x := (fcd Tryz.f47 [1, 0])) (y := (fcd Tryz.f47 [1, 1])) ?_
  refine V_regionX Γ Δ [] [0, 1, 2, 3, 4, 5, 6, 7, 8] (evs ?_)
  all_goals (try with_reducible (repeat' (first | apply And.intro | intro _)))
  all_goals (try (first | with_reducible refine wa_id ?_ | exact True.intro | exact rspan_fn _ _ | omega))
  refine WA_seq (x := (fcd Tryz.f47 [1, 1, 0])) (y := (fcd Tryz.f47 [1, 1, 1])) ?_
  refine V_regionX Γ Δ [] [0, 1, 2, 3, 4, 5, 6, 7, 8] (evs ?_)
  all_goals (try with_reducible (repeat' (first | apply And.intro | intro _)))
  all_goals (try (first | with_reducible refine wa_id ?_ | exact True.intro | exact rspan_fn _ _ | omega))
  refine WA_seq (x := (fcd Tryz.f47 [1, 1, 1, 0])) (y := (fcd Tryz.f47 [1, 1, 1, 1])) ?_
  refine V_regionX Γ Δ [] [0, 1, 2, 3, 4, 5, 6, 7, 8] (evs ?_)
  all_goals (try with_reducible (repeat' (first | apply And.intro | intro _)))
  all_goals (try (first | with_reducible refine wa_id ?_ | exact True.intro | omega))
  refine V_ret (evs ?_)
  exact fin_rhas

theorem of_fn (x0 x1 y0 y1 : Int) (h1 : -4611686018427387904 ≤ x0) (h2 : x1 ≤ 4611686018427387900) (h3 : -4611686018427387904 ≤ y0) (h4 : y1 ≤ 4611686018427387900) : Eng.Fn Tryz.prog 48 [.i x0, .i x1, .i y0, .i y1] (.dat (rcD (ofR x0 x1 y0 y1))) := by
  refine Eng.Fn.by (fn := Tryz.f48) 29 [.cell 8 23] Tryz.func48 rfl Tryz.ntmps48 rfl (by simp) fun w0 G0 => ?_
  refine WA_seq (x := (fcd Tryz.f48 [0])) (y := (fcd Tryz.f48 [1])) ?_
  refine V_regionX Γ Δ [] [0, 1, 2, 3, 8, 16] (evs ?_)
  all_goals (try with_reducible (repeat' (first | apply And.intro | intro _)))
  all_goals (try (first | with_reducible refine wa_id ?_ | exact True.intro | omega))
  refine WA_seq (x := (fcd Tryz.f48 [1, 0])) (y := (fcd Tryz.f48 [1, 1])) ?_
  refine WA_seq (x := (fcd Tryz.f48 [1, 0, 0])) (y := (fcd Tryz.f48 [1, 0, 1])) ?_
  refine V_regionX Γ Δ [] [0, 1, 2, 3, 8, 16] (evs ?_)
  all_goals (try with_reducible (repeat' (first | apply And.intro | intro _)))
  all_goals (try (first | with_reducible refine wa_id ?_ | exact True.intro | omega))
  refine V_cond (evs ?_)
  refine ⟨fun hc => ?_, fun hc => ?_⟩
  · refine WA_seq (x := (fcd Tryz.f48 [1, 0, 1, 0, 0])) (y := (fcd Tryz.f48 [1, 0, 1, 0, 1])) ?_
    refine V_regionX Γ Δ [] [0, 1, 2, 3, 8, 16] (evs ?_)
    all_goals (try with_reducible (repeat' (first | apply And.intro | intro _)))
    all_goals (try (first | with_reducible refine wa_id ?_ | exact True.intro | omega))
    refine V_ret (evs ?_)
    first | exact fe (r := zR) (fin_o1 hc) | exact fe (fin_o2 h1 h2 h3 h4 hc)
  · refine WA_skip ?_
    refine WA_seq (x := (fcd Tryz.f48 [1, 1, 0])) (y := (fcd Tryz.f48 [1, 1, 1])) ?_
    refine V_regionX Γ Δ [] [0, 1, 2, 3, 8, 16] (evs ?_)
    all_goals (try with_reducible (repeat' (first | apply And.intro | intro _)))
    all_goals (try (first | with_reducible refine wa_id ?_ | exact True.intro | omega))
    refine V_ret (evs ?_)
    first | exact fe (r := zR) (fin_o1 hc) | exact fe (fin_o2 h1 h2 h3 h4 hc)

theorem rwithin_fn (a b : Rc) : Eng.Fn Tryz.prog 31 [rcD a, rcD b] (.dat (.b (withinB a b))) := by
  refine Eng.Fn.by (fn := Tryz.f31) 33 [.tmp 4] Tryz.func31 rfl Tryz.ntmps31 rfl (by simp) fun w0 G0 => ?_
  refine WA_seq (x := (fcd Tryz.f31 [0])) (y := (fcd Tryz.f31 [1])) ?_
  refine V_regionX Γ Δ [] [0, 1, 2, 3, 4, 5, 6, 7, 8, 10] (evs ?_)
  all_goals (try with_reducible (repeat' (first | apply And.intro | intro _)))
  all_goals (try (first | with_reducible refine wa_id ?_ | exact True.intro | omega | exact rhas_fn _ ⟨_, _⟩))
  refine WA_seq (x := (fcd Tryz.f31 [1, 0])) (y := (fcd Tryz.f31 [1, 1])) ?_
  refine WA_seq (x := (fcd Tryz.f31 [1, 0, 0])) (y := (fcd Tryz.f31 [1, 0, 1])) ?_
  refine V_regionX Γ Δ [] [0, 1, 2, 3, 4, 5, 6, 7, 8, 10] (evs ?_)
  all_goals (try with_reducible (repeat' (first | apply And.intro | intro _)))
  all_goals (try (first | with_reducible refine wa_id ?_ | exact True.intro | exact rempty_fn _ | omega | exact rhas_fn _ ⟨_, _⟩))
  refine V_cond (evs ?_)
  refine ⟨fun hc => ?_, fun hc => ?_⟩
  · refine WA_seq (x := (fcd Tryz.f31 [1, 0, 1, 0, 0])) (y := (fcd Tryz.f31 [1, 0, 1, 0, 1])) ?_
    refine V_regionX Γ Δ [] [0, 1, 2, 3, 4, 5, 6, 7, 8, 10] (evs ?_)
    all_goals (try with_reducible (repeat' (first | apply And.intro | intro _)))
    all_goals (try (first | with_reducible refine wa_id ?_ | exact True.intro | omega | exact rhas_fn _ ⟨_, _⟩))
    refine V_ret (evs ?_)
    first | exact fin_w1 hc | exact fin_rw ‹_›
  · refine WA_skip ?_
    refine WA_seq (x := (fcd Tryz.f31 [1, 1, 0])) (y := (fcd Tryz.f31 [1, 1, 1])) ?_
    refine V_regionX Γ Δ [] [0, 1, 2, 3, 4, 5, 6, 7, 8, 10] (evs ?_)
    all_goals (try with_reducible (repeat' (first | apply And.intro | intro _)))
    all_goals (try (first | with_reducible refine wa_id ?_ | exact True.intro | exact rspan_fn _ _ | omega | exact rhas_fn _ ⟨_, _⟩))
    refine WA_seq (x := (fcd Tryz.f31 [1, 1, 1, 0])) (y := (fcd Tryz.f31 [1, 1, 1, 1])) ?_
    refine V_regionX Γ Δ [] [0, 1, 2, 3, 4, 5, 6, 7, 8, 10] (evs ?_)
    all_goals (try with_reducible (repeat' (first | apply And.intro | intro _)))
    all_goals (try (first | with_reducible refine wa_id ?_ | exact True.intro | exact rspan_fn _ _ | omega | exact rhas_fn _ ⟨_, _⟩))
    refine WA_seq (x := (fcd Tryz.f31 [1, 1, 1, 1, 0])) (y := (fcd Tryz.f31 [1, 1, 1, 1, 1])) ?_
    refine V_regionX Γ Δ [] [0, 1, 2, 3, 4, 5, 6, 7, 8, 10] (evs ?_)
    all_goals (try with_reducible (repeat' (first | apply And.intro | intro _)))
    all_goals (try (first | with_reducible refine wa_id ?_ | exact True.intro | exact rhas_fn _ ⟨_, _⟩ | omega | exact rhas_fn _ ⟨_, _⟩))
    refine V_ret (evs ?_)
    first | exact fin_w1 hc | exact fin_rw ‹_›

set_option maxRecDepth 100000 in
theorem rmeet_fn (a b : Rc) : Eng.Fn Tryz.prog 32 [rcD a, rcD b] (.dat (rcD (meetR a b))) := by
  refine Eng.Fn.by (fn := Tryz.f32) 53 [.cell 4 23] Tryz.func32 rfl Tryz.ntmps32 rfl (by simp) fun w0 G0 => ?_
  refine WA_seq (x := (fcd Tryz.f32 [0])) (y := (fcd Tryz.f32 [1])) ?_
  refine V_regionX Γ Δ [] [0, 1, 2, 3, 4, 5, 6, 7, 8, 9, 10, 11, 12, 18] (evs ?_)
  all_goals (try with_reducible (repeat' (first | apply And.intro | intro _)))
  all_goals (try (first | with_reducible refine wa_id ?_ | exact True.intro | omega | (have := sp_bd a 0; have := sp_bd a 1; have := sp_bd b 0; have := sp_bd b 1; exact of_fn _ _ _ _ (by omega) (by omega) (by omega) (by omega))))
  refine WA_seq (x := (fcd Tryz.f32 [1, 0])) (y := (fcd Tryz.f32 [1, 1])) ?_
  refine WA_seq (x := (fcd Tryz.f32 [1, 0, 0])) (y := (fcd Tryz.f32 [1, 0, 1])) ?_
  refine V_regionX Γ Δ [] [0, 1, 2, 3, 4, 5, 6, 7, 8, 9, 10, 11, 12, 18] (evs ?_)
  all_goals (try with_reducible (repeat' (first | apply And.intro | intro _)))
  all_goals (try (first | with_reducible refine wa_id ?_ | exact True.intro | exact rempty_fn _ | omega | (have := sp_bd a 0; have := sp_bd a 1; have := sp_bd b 0; have := sp_bd b 1; exact of_fn _ _ _ _ (by omega) (by omega) (by omega) (by omega))))
  refine V_cond (evs ?_)
  refine ⟨fun hc => ?_, fun hc => ?_⟩
  · refine WA_seq (x := (fcd Tryz.f32 [1, 0, 1, 0, 0])) (y := (fcd Tryz.f32 [1, 0, 1, 0, 1])) ?_
    refine V_regionX Γ Δ [] [0, 1, 2, 3, 4, 5, 6, 7, 8, 9, 10, 11, 12, 18] (evs ?_)
    all_goals (try with_reducible (repeat' (first | apply And.intro | intro _)))
    all_goals (try (first | with_reducible refine wa_id ?_ | exact True.intro | omega | (have := sp_bd a 0; have := sp_bd a 1; have := sp_bd b 0; have := sp_bd b 1; exact of_fn _ _ _ _ (by omega) (by omega) (by omega) (by omega))))
    refine V_ret (evs ?_)
    first | exact fe (r := zR) (fin_m1 hc) | exact fe (fin_m3 hc)
  · refine WA_skip ?_
    refine WA_seq (x := (fcd Tryz.f32 [1, 1, 0])) (y := (fcd Tryz.f32 [1, 1, 1])) ?_
    refine V_regionX Γ Δ [] [0, 1, 2, 3, 4, 5, 6, 7, 8, 9, 10, 11, 12, 18] (evs ?_)
    all_goals (try with_reducible (repeat' (first | apply And.intro | intro _)))
    all_goals (try (first | with_reducible refine wa_id ?_ | exact True.intro | exact rspan_fn _ _ | omega | (have := sp_bd a 0; have := sp_bd a 1; have := sp_bd b 0; have := sp_bd b 1; exact of_fn _ _ _ _ (by omega) (by omega) (by omega) (by omega))))
    refine WA_seq (x := (fcd Tryz.f32 [1, 1, 1, 0])) (y := (fcd Tryz.f32 [1, 1, 1, 1])) ?_
    refine V_regionX Γ Δ [] [0, 1, 2, 3, 4, 5, 6, 7, 8, 9, 10, 11, 12, 18] (evs ?_)
    all_goals (try with_reducible (repeat' (first | apply And.intro | intro _)))
    all_goals (try (first | with_reducible refine wa_id ?_ | exact True.intro | exact rspan_fn _ _ | omega | (have := sp_bd a 0; have := sp_bd a 1; have := sp_bd b 0; have := sp_bd b 1; exact of_fn _ _ _ _ (by omega) (by omega) (by omega) (by omega))))
    refine WA_seq (x := (fcd Tryz.f32 [1, 1, 1, 1, 0])) (y := (fcd Tryz.f32 [1, 1, 1, 1, 1])) ?_
    refine V_regionX Γ Δ [] [0, 1, 2, 3, 4, 5, 6, 7, 8, 9, 10, 11, 12, 18] (evs ?_)
    all_goals (try with_reducible (repeat' (first | apply And.intro | intro _)))
    all_goals (try (first | with_reducible refine wa_id ?_ | exact True.intro | exact rspan_fn _ _ | omega | (have := sp_bd a 0; have := sp_bd a 1; have := sp_bd b 0; have := sp_bd b 1; exact of_fn _ _ _ _ (by omega) (by omega) (by omega) (by omega))))
    refine WA_seq (x := (fcd Tryz.f32 [1, 1, 1, 1, 1, 0])) (y := (fcd Tryz.f32 [1, 1, 1, 1, 1, 1])) ?_
    refine V_regionX Γ Δ [] [0, 1, 2, 3, 4, 5, 6, 7, 8, 9, 10, 11, 12, 18] (evs ?_)
    all_goals (try with_reducible (repeat' (first | apply And.intro | intro _)))
    all_goals (try (first | with_reducible refine wa_id ?_ | exact True.intro | exact rspan_fn _ _ | omega | (have := sp_bd a 0; have := sp_bd a 1; have := sp_bd b 0; have := sp_bd b 1; exact of_fn _ _ _ _ (by omega) (by omega) (by omega) (by omega))))
    refine WA_seq (x := (fcd Tryz.f32 [1, 1, 1, 1, 1, 1, 0])) (y := (fcd Tryz.f32 [1, 1, 1, 1, 1, 1, 1])) ?_
    refine V_regionX Γ Δ [] [0, 1, 2, 3, 4, 5, 6, 7, 8, 9, 10, 11, 12, 18] (evs ?_)
    all_goals (try with_reducible (repeat' (first | apply And.intro | intro _)))
    all_goals (try (first | with_reducible refine wa_id ?_ | exact True.intro | exact of_fn _ _ _ _ (by omega) (by omega) (by omega) (by omega) | omega | (have := sp_bd a 0; have := sp_bd a 1; have := sp_bd b 0; have := sp_bd b 1; exact of_fn _ _ _ _ (by omega) (by omega) (by omega) (by omega))))
    refine V_ret (evs ?_)
    first | exact fe (r := zR) (fin_m1 hc) | exact fe (fin_m3 hc)

end Go.S35

