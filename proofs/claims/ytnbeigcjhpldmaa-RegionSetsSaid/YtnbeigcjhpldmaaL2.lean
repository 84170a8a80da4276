import Derived.Test.YtnbeigcjhpldmaaL0
import Derived.Test.YtnbeigcjhpldmaaR8
set_option linter.unusedSimpArgs false
set_option linter.unusedVariables false
set_option linter.unusedSimpArgs false
set_option linter.unusedVariables false
namespace Go.S03
open Go.RowKit Go.Proofs Go.Eng Go.Rect
/-- imageeditor/imageeditorlaw03.RegionSets -/
theorem sets_fn (a b : List Rc) : Eng.Fn Try.prog 4 [.sl 4 (a.map rcC), .sl 4 (b.map rcC)] (.dat (.b true)) := by
  refine Eng.Fn.by (fn := Try.f4) 33 [.tmp 4] Try.func4 rfl Try.ntmps4 rfl (by simp) fun w0 G0 => ?_
  refine WA_seq (x := (fcd Try.f4 [0])) (y := (fcd Try.f4 [1])) ?_
  refine V_regionX Γ Δ [] [0, 1, 4] (evs ?_)
  all_goals (try with_reducible (repeat' (first | apply And.intro | intro _)))
  all_goals (try (first | with_reducible refine wa_id ?_ | exact True.intro | omega | (simp [sameL_self]; done)))
  refine WA_seq (x := (fcd Try.f4 [1, 0])) (y := (fcd Try.f4 [1, 1])) ?_
  refine V_regionX Γ Δ [] [0, 1, 4] (evs ?_)
  all_goals (try with_reducible (repeat' (first | apply And.intro | intro _)))
  all_goals (try (first | with_reducible refine wa_id ?_ | exact True.intro | exact union_fn _ _ | exact runion_fn _ _ | exact lalike_fn _ _ | exact common_fn _ _ | exact rcommon_fn _ _ | exact minus_fn _ _ | exact rminus_fn _ _ | exact awake_fn | omega | (simp [sameL_self]; done)))
  refine V_ret (evs ?_)
  first | exact True.intro | rfl | (simp [sameL_self]; done)

end Go.S03

