import Derived.Test.YtppghgoeibelkaaB23
import Derived.Test.YtppghgoeibelkaaB9
import Derived.Test.YtppghgoeibelkaaB10
set_option linter.unusedSimpArgs false
set_option linter.unusedVariables false
namespace Go.S23
open Go.RowKit Go.Proofs Go.Eng Go.Rect
set_option maxHeartbeats 8000000 in
/-- imageeditor/imageeditorlaw23.MaskCombines -/
theorem l_combines (a b : Mk) (how : Int) : Eng.Fn Try.prog 9 [mkD a, mkD b, .i how] (.dat (.b true)) := by
  refine Eng.Fn.by (fn := Try.f9) 60 [.tmp 6] Try.func9 rfl Try.ntmps9 rfl (by simp) fun w0 => ?_
  refine WA_seq (x := (fcd Try.f9 [0])) (y := (fcd Try.f9 [1])) ?_
  refine V_regionX Γ Δ [19, 26, 31, 36, 39, 48, 58] [0, 1, 2, 3, 4, 6, 7, 8, 9, 10, 11, 12, 13, 14] (evs ?_)
  all_goals (try with_reducible (repeat' (first | apply And.intro | intro _)))
  all_goals (try (first | with_reducible refine wa_id ?_ | exact True.intro | omega))
  refine WA_seq (x := (fcd Try.f9 [1, 0])) (y := (fcd Try.f9 [1, 1])) ?_
  refine V_regionX Γ Δ [19, 26, 31, 36, 39, 48, 58] [0, 1, 2, 3, 4, 6, 7, 8, 9, 10, 11, 12, 13, 14] (evs ?_)
  all_goals (try with_reducible (repeat' (first | apply And.intro | intro _)))
  all_goals (try (first | with_reducible refine wa_id ?_ | exact True.intro | exact comb_fn ⟨_, _, _⟩ ⟨_, _, _⟩ _ | omega))
  refine WA_seq (x := (fcd Try.f9 [1, 1, 0])) (y := (fcd Try.f9 [1, 1, 1])) ?_
  refine V_regionX Γ Δ [19, 26, 31, 36, 39, 48, 58] [0, 1, 2, 3, 4, 6, 7, 8, 9, 10, 11, 12, 13, 14] (evs ?_)
  all_goals (try with_reducible (repeat' (first | apply And.intro | intro _)))
  all_goals (try (first | with_reducible refine wa_id ?_ | exact True.intro | exact rcomb_fn ⟨_, _, _⟩ ⟨_, _, _⟩ _ | omega))
  refine WA_seq (x := (fcd Try.f9 [1, 1, 1, 0])) (y := (fcd Try.f9 [1, 1, 1, 1])) ?_
  refine V_regionX Γ Δ [19, 26, 31, 36, 39, 48, 58] [0, 1, 2, 3, 4, 6, 7, 8, 9, 10, 11, 12, 13, 14] (evs ?_)
  all_goals (try with_reducible (repeat' (first | apply And.intro | intro _)))
  all_goals (try (first | with_reducible refine wa_id ?_ | exact True.intro | exact inv_fn ⟨_, _, _⟩ | omega))
  refine WA_seq (x := (fcd Try.f9 [1, 1, 1, 1, 0])) (y := (fcd Try.f9 [1, 1, 1, 1, 1])) ?_
  refine V_regionX Γ Δ [19, 26, 31, 36, 39, 48, 58] [0, 1, 2, 3, 4, 6, 7, 8, 9, 10, 11, 12, 13, 14] (evs ?_)
  all_goals (try with_reducible (repeat' (first | apply And.intro | intro _)))
  all_goals (try (first | with_reducible refine wa_id ?_ | exact True.intro | exact rinv_fn ⟨_, _, _⟩ | omega))
  refine WA_seq (x := (fcd Try.f9 [1, 1, 1, 1, 1, 0])) (y := (fcd Try.f9 [1, 1, 1, 1, 1, 1])) ?_
  refine V_regionX Γ Δ [19, 26, 31, 36, 39, 48, 58] [0, 1, 2, 3, 4, 6, 7, 8, 9, 10, 11, 12, 13, 14] (evs ?_)
  all_goals (try with_reducible (repeat' (first | apply And.intro | intro _)))
  all_goals (try (first | with_reducible refine wa_id ?_ | exact True.intro | exact awake_fn | exact sameM_fn ⟨_, _, _⟩ ⟨_, _, _⟩ | omega))
  refine V_ret (evs ?_)
  first | exact True.intro | (simp [sameM, sameI]; done)

end Go.S23

