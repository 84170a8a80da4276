import Derived.Test.YtnbeigcjhpldmaaF03
set_option linter.unusedSimpArgs false
set_option linter.unusedVariables false
set_option linter.unusedSimpArgs false
set_option linter.unusedVariables false
namespace Go.S03
open Go.RowKit Go.Proofs Go.Eng Go.Rect
/-- imageeditor/region.Union$1 -/
theorem keepUnion_fn (x y : Bool) : Eng.Fn Try.prog 41 [.b x, .b y] (.dat (.b (x || y))) := by
  refine Eng.Fn.by (fn := Try.f41) 9 [.tmp 4] Try.func41 rfl Try.ntmps41 rfl (by simp) fun w0 G0 => ?_
  refine WA_seq (x := (fcd Try.f41 [0])) (y := (fcd Try.f41 [1])) ?_
  refine V_regionX Γ Δ [] [0, 1, 4] (evs ?_)
  all_goals (try with_reducible (repeat' (first | apply And.intro | intro _)))
  all_goals (try (first | with_reducible refine wa_id ?_ | exact True.intro | omega))
  refine WA_seq (x := (fcd Try.f41 [1, 0])) (y := (fcd Try.f41 [1, 1])) ?_
  refine V_regionX Γ Δ [] [0, 1, 4] (evs ?_)
  all_goals (try with_reducible (repeat' (first | apply And.intro | intro _)))
  all_goals (try (first | with_reducible refine wa_id ?_ | exact True.intro | omega))
  refine V_ret (evs ?_)
  first | exact True.intro | rfl | (cases x <;> cases y <;> rfl)

/-- imageeditor/region.Common$1 -/
theorem keepCommon_fn (x y : Bool) : Eng.Fn Try.prog 42 [.b x, .b y] (.dat (.b (x && y))) := by
  refine Eng.Fn.by (fn := Try.f42) 9 [.tmp 4] Try.func42 rfl Try.ntmps42 rfl (by simp) fun w0 G0 => ?_
  refine WA_seq (x := (fcd Try.f42 [0])) (y := (fcd Try.f42 [1])) ?_
  refine V_regionX Γ Δ [] [0, 1, 4] (evs ?_)
  all_goals (try with_reducible (repeat' (first | apply And.intro | intro _)))
  all_goals (try (first | with_reducible refine wa_id ?_ | exact True.intro | omega))
  refine WA_seq (x := (fcd Try.f42 [1, 0])) (y := (fcd Try.f42 [1, 1])) ?_
  refine V_regionX Γ Δ [] [0, 1, 4] (evs ?_)
  all_goals (try with_reducible (repeat' (first | apply And.intro | intro _)))
  all_goals (try (first | with_reducible refine wa_id ?_ | exact True.intro | omega))
  refine V_ret (evs ?_)
  first | exact True.intro | rfl | (cases x <;> cases y <;> rfl)

/-- imageeditor/region.Minus$1 -/
theorem keepMinus_fn (x y : Bool) : Eng.Fn Try.prog 43 [.b x, .b y] (.dat (.b (x && !y))) := by
  refine Eng.Fn.by (fn := Try.f43) 10 [.tmp 4] Try.func43 rfl Try.ntmps43 rfl (by simp) fun w0 G0 => ?_
  refine WA_seq (x := (fcd Try.f43 [0])) (y := (fcd Try.f43 [1])) ?_
  refine V_regionX Γ Δ [] [0, 1, 4] (evs ?_)
  all_goals (try with_reducible (repeat' (first | apply And.intro | intro _)))
  all_goals (try (first | with_reducible refine wa_id ?_ | exact True.intro | omega))
  refine WA_seq (x := (fcd Try.f43 [1, 0])) (y := (fcd Try.f43 [1, 1])) ?_
  refine V_regionX Γ Δ [] [0, 1, 4] (evs ?_)
  all_goals (try with_reducible (repeat' (first | apply And.intro | intro _)))
  all_goals (try (first | with_reducible refine wa_id ?_ | exact True.intro | omega))
  refine V_ret (evs ?_)
  first | exact True.intro | rfl | (cases x <;> cases y <;> rfl)

end Go.S03

