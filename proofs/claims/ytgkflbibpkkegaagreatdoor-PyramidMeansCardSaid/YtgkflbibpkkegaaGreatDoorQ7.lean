import Derived.Test.YtgkflbibpkkegaaGreatDoorR0
import Derived.Stop.Joined
set_option linter.unusedSimpArgs false
set_option linter.unusedVariables false
namespace Go.Proofs.YtgkflbibpkkegaaGreatDoor
open Go.ChangeShapes Go.WideShapes Go.ChangeAt Go.RowKit Go.Rect Go.Eng
set_option maxHeartbeats 8000000 in
set_option maxRecDepth 100000 in
theorem pyramidMeans_closed : joinedFacts Tryz.prog 7 Tryz.f7 Rows.pyramidMeansSpec Rows.pyramidMeansRow = true := by
  unfold joinedFacts
  simp only [Bool.and_eq_true]
  repeat' apply And.intro
  all_goals (as_aux_lemma => kernel_rfl)

end Go.Proofs.YtgkflbibpkkegaaGreatDoor

