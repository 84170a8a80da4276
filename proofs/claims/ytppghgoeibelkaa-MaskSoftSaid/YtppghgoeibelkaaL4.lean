import Derived.Test.YtppghgoeibelkaaB23
import Derived.Test.YtppghgoeibelkaaB13
import Derived.Test.YtppghgoeibelkaaB15
set_option linter.unusedSimpArgs false
set_option linter.unusedVariables false
namespace Go.S23
open Go.RowKit Go.Proofs Go.Eng Go.Rect
set_option maxHeartbeats 8000000 in
/-- imageeditor/imageeditorlaw23.MaskSoft -/
theorem l_soft (m : Mk) (r n : Int) : Eng.Fn Try.prog 4 [mkD m, .i r, .i n] (.dat (.b true)) := by
  refine Eng.Fn.by (fn := Try.f4) 60 [.tmp 6] Try.func4 rfl Try.ntmps4 rfl (by simp) fun w0 => ?_
  refine WA_seq (x := (fcd Try.f4 [0])) (y := (fcd Try.f4 [1])) ?_
  refine V_regionX Γ Δ [18, 24, 30, 36, 39, 48, 58] [0, 1, 2, 3, 6, 7, 8, 9, 10, 11, 12, 13, 14] (evs ?_)
  all_goals (try with_reducible (repeat' (first | apply And.intro | intro _)))
  all_goals (try (first | with_reducible refine wa_id ?_ | exact True.intro | omega))
  refine WA_seq (x := (fcd Try.f4 [1, 0])) (y := (fcd Try.f4 [1, 1])) ?_
  refine V_regionX Γ Δ [18, 24, 30, 36, 39, 48, 58] [0, 1, 2, 3, 6, 7, 8, 9, 10, 11, 12, 13, 14] (evs ?_)
  all_goals (try with_reducible (repeat' (first | apply And.intro | intro _)))
  all_goals (try (first | with_reducible refine wa_id ?_ | exact True.intro | exact fea_fn ⟨_, _, _⟩ _ | omega))
  refine WA_seq (x := (fcd Try.f4 [1, 1, 0])) (y := (fcd Try.f4 [1, 1, 1])) ?_
  refine V_regionX Γ Δ [18, 24, 30, 36, 39, 48, 58] [0, 1, 2, 3, 6, 7, 8, 9, 10, 11, 12, 13, 14] (evs ?_)
  all_goals (try with_reducible (repeat' (first | apply And.intro | intro _)))
  all_goals (try (first | with_reducible refine wa_id ?_ | exact True.intro | exact rfea_fn ⟨_, _, _⟩ _ | omega))
  refine WA_seq (x := (fcd Try.f4 [1, 1, 1, 0])) (y := (fcd Try.f4 [1, 1, 1, 1])) ?_
  refine V_regionX Γ Δ [18, 24, 30, 36, 39, 48, 58] [0, 1, 2, 3, 6, 7, 8, 9, 10, 11, 12, 13, 14] (evs ?_)
  all_goals (try with_reducible (repeat' (first | apply And.intro | intro _)))
  all_goals (try (first | with_reducible refine wa_id ?_ | exact True.intro | exact gw_fn ⟨_, _, _⟩ _ | omega))
  refine WA_seq (x := (fcd Try.f4 [1, 1, 1, 1, 0])) (y := (fcd Try.f4 [1, 1, 1, 1, 1])) ?_
  refine V_regionX Γ Δ [18, 24, 30, 36, 39, 48, 58] [0, 1, 2, 3, 6, 7, 8, 9, 10, 11, 12, 13, 14] (evs ?_)
  all_goals (try with_reducible (repeat' (first | apply And.intro | intro _)))
  all_goals (try (first | with_reducible refine wa_id ?_ | exact True.intro | exact rgw_fn ⟨_, _, _⟩ _ | omega))
  refine WA_seq (x := (fcd Try.f4 [1, 1, 1, 1, 1, 0])) (y := (fcd Try.f4 [1, 1, 1, 1, 1, 1])) ?_
  refine V_regionX Γ Δ [18, 24, 30, 36, 39, 48, 58] [0, 1, 2, 3, 6, 7, 8, 9, 10, 11, 12, 13, 14] (evs ?_)
  all_goals (try with_reducible (repeat' (first | apply And.intro | intro _)))
  all_goals (try (first | with_reducible refine wa_id ?_ | exact True.intro | exact awake_fn | exact sameM_fn ⟨_, _, _⟩ ⟨_, _, _⟩ | omega))
  refine V_ret (evs ?_)
  first | exact True.intro | (simp [sameM, sameI]; done)

end Go.S23

