import Derived.Test.YtdillkdhpalgcaaGreatB4
set_option linter.unusedSimpArgs false
set_option linter.unusedVariables false
set_option linter.unusedSimpArgs false
set_option linter.unusedVariables false
namespace Go.S16
open Go.RowKit Go.Proofs Go.Eng Go.Rect
theorem luma_fn (p : Px) : Eng.Fn Tryz.prog 72 [pxD p] (.dat (.i (lumI p))) := by
  have ur : 0 ≤ (limP p).r ∧ (limP p).r ≤ 65535 := unit_bd p.r
  have ug : 0 ≤ (limP p).g ∧ (limP p).g ≤ 65535 := unit_bd p.g
  have ub : 0 ≤ (limP p).b ∧ (limP p).b ≤ 65535 := unit_bd p.b
  refine Eng.Fn.by (fn := Tryz.f72) 17 [.tmp 2] Tryz.func72 rfl Tryz.ntmps72 rfl (by simp) fun w0 G0 => ?_
  refine WA_seq (x := (fcd Tryz.f72 [0])) (y := (fcd Tryz.f72 [1])) ?_
  refine V_regionX Γ Δ [] [0, 1, 2] (evs ?_)
  all_goals (try with_reducible (repeat' (first | apply And.intro | intro _)))
  all_goals (try (first | with_reducible refine wa_id ?_ | exact True.intro | omega))
  refine WA_seq (x := (fcd Tryz.f72 [1, 0])) (y := (fcd Tryz.f72 [1, 1])) ?_
  refine V_regionX Γ Δ [] [0, 1, 2] (evs ?_)
  all_goals (try with_reducible (repeat' (first | apply And.intro | intro _)))
  all_goals (try (first | with_reducible refine wa_id ?_ | exact True.intro | exact plimit_fn _ | omega))
  refine WA_seq (x := (fcd Tryz.f72 [1, 1, 0])) (y := (fcd Tryz.f72 [1, 1, 1])) ?_
  refine V_regionX Γ Δ [] [0, 1, 2] (evs ?_)
  (try simp (maxSteps := 10000000) (disch := omega) only [w64])
  all_goals (try with_reducible (repeat' (first | apply And.intro | intro _)))
  all_goals (try (first | with_reducible refine wa_id ?_ | exact True.intro | exact divw_fn _ _ (by omega) (by omega) (by omega) (by omega) | omega))
  refine V_ret (evs ?_)
  first | rfl

theorem funit_fn (a : Int) : Eng.Fn Tryz.prog 67 [.i a] (.dat (.i (unitI a))) := by
  refine Eng.Fn.by (fn := Tryz.f67) 5 [.tmp 2] Tryz.func67 rfl Tryz.ntmps67 rfl (by simp) fun w0 G0 => ?_
  refine WA_seq (x := (fcd Tryz.f67 [0])) (y := (fcd Tryz.f67 [1])) ?_
  refine V_regionX Γ Δ [] [0, 2] (evs ?_)
  all_goals (try with_reducible (repeat' (first | apply And.intro | intro _)))
  all_goals (try (first | with_reducible refine wa_id ?_ | exact True.intro | omega))
  refine WA_seq (x := (fcd Tryz.f67 [1, 0])) (y := (fcd Tryz.f67 [1, 1])) ?_
  refine V_regionX Γ Δ [] [0, 2] (evs ?_)
  all_goals (try with_reducible (repeat' (first | apply And.intro | intro _)))
  all_goals (try (first | with_reducible refine wa_id ?_ | exact True.intro | exact clamp_fn _ _ _ | omega))
  refine V_ret (evs ?_)
  first | rfl

theorem gray_fn (c a : Int) : Eng.Fn Tryz.prog 35 [.i c, .i a] (.dat (pxD (grayP c a))) := by
  refine Eng.Fn.by (fn := Tryz.f35) 12 [.cell 4 49] Tryz.func35 rfl Tryz.ntmps35 rfl (by simp) fun w0 G0 => ?_
  refine WA_seq (x := (fcd Tryz.f35 [0])) (y := (fcd Tryz.f35 [1])) ?_
  refine V_regionX Γ Δ [] [0, 1, 4] (evs ?_)
  all_goals (try with_reducible (repeat' (first | apply And.intro | intro _)))
  all_goals (try (first | with_reducible refine wa_id ?_ | exact True.intro | omega))
  refine WA_seq (x := (fcd Tryz.f35 [1, 0])) (y := (fcd Tryz.f35 [1, 1])) ?_
  refine V_regionX Γ Δ [] [0, 1, 4] (evs ?_)
  all_goals (try with_reducible (repeat' (first | apply And.intro | intro _)))
  all_goals (try (first | with_reducible refine wa_id ?_ | exact True.intro | exact funit_fn _ | omega))
  refine WA_seq (x := (fcd Tryz.f35 [1, 1, 0])) (y := (fcd Tryz.f35 [1, 1, 1])) ?_
  refine V_regionX Γ Δ [] [0, 1, 4] (evs ?_)
  all_goals (try with_reducible (repeat' (first | apply And.intro | intro _)))
  all_goals (try (first | with_reducible refine wa_id ?_ | exact True.intro | omega))
  refine V_ret (evs ?_)
  first | rfl | exact ⟨rfl, rfl, rfl, rfl⟩

theorem vluma_fn (v : Vw) (a b c d e : D) (x y : Int) (hv : VIn v x y) : Eng.Fn Tryz.prog 36 [.bx (vwC v a b c d e), .i x, .i y] (.dat (.i (lumF v x y))) := by
  refine Eng.Fn.by (fn := Tryz.f36) 12 [.tmp 6] Tryz.func36 rfl Tryz.ntmps36 rfl (by simp) fun w0 G0 => ?_
  refine WA_seq (x := (fcd Tryz.f36 [0])) (y := (fcd Tryz.f36 [1])) ?_
  refine V_regionX Γ Δ [] [0, 1, 2, 6] (evs ?_)
  all_goals (try with_reducible (repeat' (first | apply And.intro | intro _)))
  all_goals (try (first | with_reducible refine wa_id ?_ | exact True.intro | omega))
  refine WA_seq (x := (fcd Tryz.f36 [1, 0])) (y := (fcd Tryz.f36 [1, 1])) ?_
  refine V_regionX Γ Δ [] [0, 1, 2, 6] (evs ?_)
  all_goals (try with_reducible (repeat' (first | apply And.intro | intro _)))
  all_goals (try (first | with_reducible refine wa_id ?_ | exact True.intro | exact pixel_fn ⟨⟨_, _, _⟩, ⟨_, _⟩, ⟨_, _, _, _⟩, _, _, _⟩ _ _ _ _ _ _ _ (by assumption) | exact luma_fn ⟨_, _, _, _⟩ | omega))
  refine V_ret (evs ?_)
  first | rfl

end Go.S16

