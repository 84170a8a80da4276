import Derived.Test.YtnbeigcjhpldmaaGreatF03
set_option linter.unusedSimpArgs false
set_option linter.unusedVariables false
set_option linter.unusedSimpArgs false
set_option linter.unusedVariables false
namespace Go.S03
open Go.RowKit Go.Proofs Go.Eng Go.Rect
theorem keepUnion_fn (x y : Bool) : Eng.Fn Tryz.prog 48 [.b x, .b y] (.dat (.b (x || y))) := by
  refine Eng.Fn.by (fn := Tryz.f48) 9 [.tmp 4] Tryz.func48 rfl Tryz.ntmps48 rfl (by simp) fun w0 G0 => ?_
  refine WA_seq (x := (fcd Tryz.f48 [0])) (y := (fcd Tryz.f48 [1])) ?_
  refine V_regionX Γ Δ [] [0, 1, 4] (evs ?_)
  all_goals (try with_reducible (repeat' (first | apply And.intro | intro _)))
  all_goals (try (first | with_reducible refine wa_id ?_ | exact True.intro | omega))
  refine WA_seq (x := (fcd Tryz.f48 [1, 0])) (y := (fcd Tryz.f48 [1, 1])) ?_
  refine V_regionX Γ Δ [] [0, 1, 4] (evs ?_)
  all_goals (try with_reducible (repeat' (first | apply And.intro | intro _)))
  all_goals (try (first | with_reducible refine wa_id ?_ | exact True.intro | omega))
  refine V_ret (evs ?_)
  first | exact True.intro | rfl | (cases x <;> cases y <;> rfl)

theorem keepCommon_fn (x y : Bool) : Eng.Fn Tryz.prog 49 [.b x, .b y] (.dat (.b (x && y))) := by
  refine Eng.Fn.by (fn := Tryz.f49) 9 [.tmp 4] Tryz.func49 rfl Tryz.ntmps49 rfl (by simp) fun w0 G0 => ?_
  refine WA_seq (x := (fcd Tryz.f49 [0])) (y := (fcd Tryz.f49 [1])) ?_
  refine V_regionX Γ Δ [] [0, 1, 4] (evs ?_)
  all_goals (try with_reducible (repeat' (first | apply And.intro | intro _)))
  all_goals (try (first | with_reducible refine wa_id ?_ | exact True.intro | omega))
  refine WA_seq (x := (fcd Tryz.f49 [1, 0])) (y := (fcd Tryz.f49 [1, 1])) ?_
  refine V_regionX Γ Δ [] [0, 1, 4] (evs ?_)
  all_goals (try with_reducible (repeat' (first | apply And.intro | intro _)))
  all_goals (try (first | with_reducible refine wa_id ?_ | exact True.intro | omega))
  refine V_ret (evs ?_)
  first | exact True.intro | rfl | (cases x <;> cases y <;> rfl)

theorem keepMinus_fn (x y : Bool) : Eng.Fn Tryz.prog 47 [.b x, .b y] (.dat (.b (x && !y))) := by
  refine Eng.Fn.by (fn := Tryz.f47) 10 [.tmp 4] Tryz.func47 rfl Tryz.ntmps47 rfl (by simp) fun w0 G0 => ?_
  refine WA_seq (x := (fcd Tryz.f47 [0])) (y := (fcd Tryz.f47 [1])) ?_
  refine V_regionX Γ Δ [] [0, 1, 4] (evs ?_)
  all_goals (try with_reducible (repeat' (first | apply And.intro | intro _)))
  all_goals (try (first | with_reducible refine wa_id ?_ | exact True.intro | omega))
  refine WA_seq (x := (fcd Tryz.f47 [1, 0])) (y := (fcd Tryz.f47 [1, 1])) ?_
  refine V_regionX Γ Δ [] [0, 1, 4] (evs ?_)
  all_goals (try with_reducible (repeat' (first | apply And.intro | intro _)))
  all_goals (try (first | with_reducible refine wa_id ?_ | exact True.intro | omega))
  refine V_ret (evs ?_)
  first | exact True.intro | rfl | (cases x <;> cases y <;> rfl)

end Go.S03

