import Derived.Test.YtppghgoeibelkaaB23
import Derived.Test.YtppghgoeibelkaaB21
set_option linter.unusedSimpArgs false
set_option linter.unusedVariables false
namespace Go.S23
open Go.RowKit Go.Proofs Go.Eng Go.Rect
set_option maxHeartbeats 8000000 in
/-- imageeditor/imageeditorlaw23.MaskImages -/
theorem l_images (i j : Im) (m : Mk) : Eng.Fn Try.prog 5 [imD i, imD j, mkD m] (.dat (.b true)) := by
  refine Eng.Fn.by (fn := Try.f5) 62 [.tmp 6] Try.func5 rfl Try.ntmps5 rfl (by simp) fun w0 => ?_
  refine WA_seq (x := (fcd Try.f5 [0])) (y := (fcd Try.f5 [1])) ?_
  refine V_regionX Γ Δ [18, 24, 31, 38, 41, 50, 60] [0, 1, 2, 3, 4, 5, 6, 7, 8, 9, 10, 11, 12, 13, 14] (evs ?_)
  all_goals (try with_reducible (repeat' (first | apply And.intro | intro _)))
  all_goals (try (first | with_reducible refine wa_id ?_ | exact True.intro | omega))
  refine WA_seq (x := (fcd Try.f5 [1, 0])) (y := (fcd Try.f5 [1, 1])) ?_
  refine V_regionX Γ Δ [18, 24, 31, 38, 41, 50, 60] [0, 1, 2, 3, 4, 5, 6, 7, 8, 9, 10, 11, 12, 13, 14] (evs ?_)
  all_goals (try with_reducible (repeat' (first | apply And.intro | intro _)))
  all_goals (try (first | with_reducible refine wa_id ?_ | exact True.intro | exact fdm_fn ⟨_, _, _⟩ ⟨_, _, _⟩ | omega))
  refine WA_seq (x := (fcd Try.f5 [1, 1, 0])) (y := (fcd Try.f5 [1, 1, 1])) ?_
  refine V_regionX Γ Δ [18, 24, 31, 38, 41, 50, 60] [0, 1, 2, 3, 4, 5, 6, 7, 8, 9, 10, 11, 12, 13, 14] (evs ?_)
  all_goals (try with_reducible (repeat' (first | apply And.intro | intro _)))
  all_goals (try (first | with_reducible refine wa_id ?_ | exact True.intro | exact rfdm_fn ⟨_, _, _⟩ ⟨_, _, _⟩ | omega))
  refine WA_seq (x := (fcd Try.f5 [1, 1, 1, 0])) (y := (fcd Try.f5 [1, 1, 1, 1])) ?_
  refine V_regionX Γ Δ [18, 24, 31, 38, 41, 50, 60] [0, 1, 2, 3, 4, 5, 6, 7, 8, 9, 10, 11, 12, 13, 14] (evs ?_)
  all_goals (try with_reducible (repeat' (first | apply And.intro | intro _)))
  all_goals (try (first | with_reducible refine wa_id ?_ | exact True.intro | exact mx_fn ⟨_, _, _⟩ ⟨_, _, _⟩ ⟨_, _, _⟩ | omega))
  refine WA_seq (x := (fcd Try.f5 [1, 1, 1, 1, 0])) (y := (fcd Try.f5 [1, 1, 1, 1, 1])) ?_
  refine V_regionX Γ Δ [18, 24, 31, 38, 41, 50, 60] [0, 1, 2, 3, 4, 5, 6, 7, 8, 9, 10, 11, 12, 13, 14] (evs ?_)
  all_goals (try with_reducible (repeat' (first | apply And.intro | intro _)))
  all_goals (try (first | with_reducible refine wa_id ?_ | exact True.intro | exact rmx_fn ⟨_, _, _⟩ ⟨_, _, _⟩ ⟨_, _, _⟩ | omega))
  refine WA_seq (x := (fcd Try.f5 [1, 1, 1, 1, 1, 0])) (y := (fcd Try.f5 [1, 1, 1, 1, 1, 1])) ?_
  refine V_regionX Γ Δ [18, 24, 31, 38, 41, 50, 60] [0, 1, 2, 3, 4, 5, 6, 7, 8, 9, 10, 11, 12, 13, 14] (evs ?_)
  all_goals (try with_reducible (repeat' (first | apply And.intro | intro _)))
  all_goals (try (first | with_reducible refine wa_id ?_ | exact True.intro | exact awake_fn | exact sameI_fn ⟨_, _, _⟩ ⟨_, _, _⟩ | omega))
  refine V_ret (evs ?_)
  first | exact True.intro | (simp [sameM, sameI]; done)

end Go.S23

