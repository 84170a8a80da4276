import Derived.Test.YtgkflbibpkkegaaGreatDoorA0
set_option linter.unusedSimpArgs false
set_option linter.unusedVariables false
set_option linter.unusedSimpArgs false
set_option linter.unusedVariables false
namespace Go.S35
open Go.RowKit Go.Proofs Go.Eng Go.Rect
theorem unit_fn (a : Int) : Eng.Fn Tryz.prog 153 [.i a] (.dat (.i (unitI a))) := by
  refine Eng.Fn.by (fn := Tryz.f153) 5 [.tmp 2] Tryz.func153 rfl Tryz.ntmps153 rfl (by simp) fun w0 G0 => ?_
  refine WA_seq (x := (fcd Tryz.f153 [0])) (y := (fcd Tryz.f153 [1])) ?_
  refine V_regionX Γ Δ [] [0, 2] (evs ?_)
  all_goals (try with_reducible (repeat' (first | apply And.intro | intro _)))
  all_goals (try (first | with_reducible refine wa_id ?_ | exact True.intro | omega))
  refine WA_seq (x := (fcd Tryz.f153 [1, 0])) (y := (fcd Tryz.f153 [1, 1])) ?_
  refine V_regionX Γ Δ [] [0, 2] (evs ?_)
  all_goals (try with_reducible (repeat' (first | apply And.intro | intro _)))
  all_goals (try (first | with_reducible refine wa_id ?_ | exact True.intro | exact clamp_fn _ _ _ | omega))
  refine V_ret (evs ?_)
  rfl

theorem punit_fn (a : Int) : Eng.Fn Tryz.prog 70 [.i a] (.dat (.i (unitI a))) := by
  refine Eng.Fn.by (fn := Tryz.f70) 5 [.tmp 2] Tryz.func70 rfl Tryz.ntmps70 rfl (by simp) fun w0 G0 => ?_
  refine WA_seq (x := (fcd Tryz.f70 [0])) (y := (fcd Tryz.f70 [1])) ?_
  refine V_regionX Γ Δ [] [0, 2] (evs ?_)
  all_goals (try with_reducible (repeat' (first | apply And.intro | intro _)))
  all_goals (try (first | with_reducible refine wa_id ?_ | exact True.intro | omega))
  refine WA_seq (x := (fcd Tryz.f70 [1, 0])) (y := (fcd Tryz.f70 [1, 1])) ?_
  refine V_regionX Γ Δ [] [0, 2] (evs ?_)
  all_goals (try with_reducible (repeat' (first | apply And.intro | intro _)))
  all_goals (try (first | with_reducible refine wa_id ?_ | exact True.intro | exact clamp_fn _ _ _ | omega))
  refine V_ret (evs ?_)
  rfl

theorem rpunit_fn (a : Int) : Eng.Fn Tryz.prog 88 [.i a] (.dat (.i (unitI a))) := by
  refine Eng.Fn.by (fn := Tryz.f88) 5 [.tmp 2] Tryz.func88 rfl Tryz.ntmps88 rfl (by simp) fun w0 G0 => ?_
  refine WA_seq (x := (fcd Tryz.f88 [0])) (y := (fcd Tryz.f88 [1])) ?_
  refine V_regionX Γ Δ [] [0, 2] (evs ?_)
  all_goals (try with_reducible (repeat' (first | apply And.intro | intro _)))
  all_goals (try (first | with_reducible refine wa_id ?_ | exact True.intro | omega))
  refine WA_seq (x := (fcd Tryz.f88 [1, 0])) (y := (fcd Tryz.f88 [1, 1])) ?_
  refine V_regionX Γ Δ [] [0, 2] (evs ?_)
  all_goals (try with_reducible (repeat' (first | apply And.intro | intro _)))
  all_goals (try (first | with_reducible refine wa_id ?_ | exact True.intro | exact rclamp_fn _ _ _ | omega))
  refine V_ret (evs ?_)
  rfl

theorem plimit_fn (p : Px) : Eng.Fn Tryz.prog 56 [pxD p] (.dat (pxD (limP p))) := by
  refine Eng.Fn.by (fn := Tryz.f56) 16 [.cell 2 44] Tryz.func56 rfl Tryz.ntmps56 rfl (by simp) fun w0 G0 => ?_
  refine WA_seq (x := (fcd Tryz.f56 [0])) (y := (fcd Tryz.f56 [1])) ?_
  refine V_regionX Γ Δ [] [0, 1, 2] (evs ?_)
  all_goals (try with_reducible (repeat' (first | apply And.intro | intro _)))
  all_goals (try (first | with_reducible refine wa_id ?_ | exact True.intro | omega))
  refine WA_seq (x := (fcd Tryz.f56 [1, 0])) (y := (fcd Tryz.f56 [1, 1])) ?_
  refine V_draw Γ [] [0, 1, 2] mixed (by kernel_rfl) (evs ?_)
  all_goals (try with_reducible (repeat' (first | apply And.intro | intro _)))
  all_goals (try (first | with_reducible refine wa_id ?_ | exact True.intro | exact punit_fn _ | omega))
  refine V_ret (evs ?_)
  exact ⟨rfl, rfl, rfl, rfl⟩

theorem pvalid6_fn (p : Px) : Eng.Fn Tryz.prog 41 [pxD p] (.dat (.b (validP p))) := by
  refine Eng.Fn.by (fn := Tryz.f41) 7 [.tmp 2] Tryz.func41 rfl Tryz.ntmps41 rfl (by simp) fun w0 G0 => ?_
  refine WA_seq (x := (fcd Tryz.f41 [0])) (y := (fcd Tryz.f41 [1])) ?_
  refine V_regionX Γ Δ [] [0, 1, 2] (evs ?_)
  all_goals (try with_reducible (repeat' (first | apply And.intro | intro _)))
  all_goals (try (first | with_reducible refine wa_id ?_ | exact True.intro | omega))
  refine WA_seq (x := (fcd Tryz.f41 [1, 0])) (y := (fcd Tryz.f41 [1, 1])) ?_
  refine V_draw Γ [] [0, 1, 2] mixed (by kernel_rfl) (evs ?_)
  all_goals (try with_reducible (repeat' (first | apply And.intro | intro _)))
  all_goals (try (first | with_reducible refine wa_id ?_ | exact True.intro | exact plimit_fn _ | omega))
  refine V_ret (evs ?_)
  first | exact vp1 p | exact vp2 p

theorem rlimit_fn (p : Px) : Eng.Fn Tryz.prog 67 [pxD p] (.dat (pxD (limP p))) := by
  refine Eng.Fn.by (fn := Tryz.f67) 16 [.cell 2 44] Tryz.func67 rfl Tryz.ntmps67 rfl (by simp) fun w0 G0 => ?_
  refine WA_seq (x := (fcd Tryz.f67 [0])) (y := (fcd Tryz.f67 [1])) ?_
  refine V_regionX Γ Δ [] [0, 1, 2] (evs ?_)
  all_goals (try with_reducible (repeat' (first | apply And.intro | intro _)))
  all_goals (try (first | with_reducible refine wa_id ?_ | exact True.intro | omega))
  refine WA_seq (x := (fcd Tryz.f67 [1, 0])) (y := (fcd Tryz.f67 [1, 1])) ?_
  refine V_draw Γ [] [0, 1, 2] mixed (by kernel_rfl) (evs ?_)
  all_goals (try with_reducible (repeat' (first | apply And.intro | intro _)))
  all_goals (try (first | with_reducible refine wa_id ?_ | exact True.intro | exact rpunit_fn _ | omega))
  refine V_ret (evs ?_)
  exact ⟨rfl, rfl, rfl, rfl⟩

theorem rvalid6_fn (p : Px) : Eng.Fn Tryz.prog 53 [pxD p] (.dat (.b (validP p))) := by
  refine Eng.Fn.by (fn := Tryz.f53) 7 [.tmp 2] Tryz.func53 rfl Tryz.ntmps53 rfl (by simp) fun w0 G0 => ?_
  refine WA_seq (x := (fcd Tryz.f53 [0])) (y := (fcd Tryz.f53 [1])) ?_
  refine V_regionX Γ Δ [] [0, 1, 2] (evs ?_)
  all_goals (try with_reducible (repeat' (first | apply And.intro | intro _)))
  all_goals (try (first | with_reducible refine wa_id ?_ | exact True.intro | omega))
  refine WA_seq (x := (fcd Tryz.f53 [1, 0])) (y := (fcd Tryz.f53 [1, 1])) ?_
  refine V_draw Γ [] [0, 1, 2] mixed (by kernel_rfl) (evs ?_)
  all_goals (try with_reducible (repeat' (first | apply And.intro | intro _)))
  all_goals (try (first | with_reducible refine wa_id ?_ | exact True.intro | exact rlimit_fn _ | omega))
  refine V_ret (evs ?_)
  first | exact vp1 p | exact vp2 p

end Go.S35

