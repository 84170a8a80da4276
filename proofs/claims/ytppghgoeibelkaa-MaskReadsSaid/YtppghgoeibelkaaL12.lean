import Derived.Test.YtppghgoeibelkaaB23
import Derived.Test.YtppghgoeibelkaaB16
set_option linter.unusedSimpArgs false
set_option linter.unusedVariables false
namespace Go.S23
open Go.RowKit Go.Proofs Go.Eng Go.Rect
set_option maxHeartbeats 8000000 in
/-- imageeditor/imageeditorlaw23.MaskReads -/
theorem l_reads (m : Mk) (x y : Int) (r : Rc) : Eng.Fn Try.prog 12 [mkD m, .i x, .i y, rcD r] (.dat (.b true)) := by
  refine Eng.Fn.by (fn := Try.f12) 54 [.tmp 8] Try.func12 rfl Try.ntmps12 rfl (by simp) fun w0 => ?_
  refine WA_seq (x := (fcd Try.f12 [0])) (y := (fcd Try.f12 [1])) ?_
  refine V_regionX Γ Δ [16, 22, 25, 34, 40, 44, 49, 51] [0, 1, 2, 3, 4, 7, 8, 9, 10, 11, 12] (evs ?_)
  all_goals (try with_reducible (repeat' (first | apply And.intro | intro _)))
  all_goals (try (first | with_reducible refine wa_id ?_ | exact True.intro | omega))
  refine WA_seq (x := (fcd Try.f12 [1, 0])) (y := (fcd Try.f12 [1, 1])) ?_
  refine V_regionX Γ Δ [16, 22, 25, 34, 40, 44, 49, 51] [0, 1, 2, 3, 4, 7, 8, 9, 10, 11, 12] (evs ?_)
  all_goals (try with_reducible (repeat' (first | apply And.intro | intro _)))
  all_goals (try (first | with_reducible refine wa_id ?_ | exact True.intro | exact crop_fn ⟨_, _, _⟩ ⟨_, _, _, _⟩ | omega))
  refine WA_seq (x := (fcd Try.f12 [1, 1, 0])) (y := (fcd Try.f12 [1, 1, 1])) ?_
  refine V_regionX Γ Δ [16, 22, 25, 34, 40, 44, 49, 51] [0, 1, 2, 3, 4, 7, 8, 9, 10, 11, 12] (evs ?_)
  all_goals (try with_reducible (repeat' (first | apply And.intro | intro _)))
  all_goals (try (first | with_reducible refine wa_id ?_ | exact True.intro | exact rcrop_fn ⟨_, _, _⟩ ⟨_, _, _, _⟩ | omega))
  refine WA_seq (x := (fcd Try.f12 [1, 1, 1, 0])) (y := (fcd Try.f12 [1, 1, 1, 1])) ?_
  refine V_draw Γ [16, 22, 25, 34, 40, 44, 49, 51] [0, 1, 2, 3, 4, 7, 8, 9, 10, 11, 12] mixed (by kernel_rfl) (evs ?_)
  all_goals (try with_reducible (repeat' (first | apply And.intro | intro _)))
  all_goals (try (first | with_reducible refine wa_id ?_ | exact True.intro | exact awake_fn | exact sameM_fn ⟨_, _, _⟩ ⟨_, _, _⟩ | exact at_fn ⟨_, _, _⟩ _ _ | exact rat_fn ⟨_, _, _⟩ _ _ | exact mbox_fn ⟨_, _, _⟩ | exact rmbox_fn ⟨_, _, _⟩ | omega))
  refine V_ret (evs ?_)
  first | exact True.intro | (simp [sameM, sameI]; done)

end Go.S23

