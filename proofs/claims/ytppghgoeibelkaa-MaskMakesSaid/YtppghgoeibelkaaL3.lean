import Derived.Test.YtppghgoeibelkaaB23
import Derived.Test.YtppghgoeibelkaaB7
set_option linter.unusedSimpArgs false
set_option linter.unusedVariables false
namespace Go.S23
open Go.RowKit Go.Proofs Go.Eng Go.Rect
set_option maxHeartbeats 8000000 in
set_option maxRecDepth 100000 in
/-- imageeditor/imageeditorlaw23.MaskMakes -/
theorem l_makes (m : Mk) (w h v : Int) (r : Rc) : Eng.Fn Try.prog 3 [mkD m, .i w, .i h, .i v, rcD r] (.dat (.b true)) := by
  refine Eng.Fn.by (fn := Try.f3) 103 [.tmp 10] Try.func3 rfl Try.ntmps3 rfl (by simp) fun w0 => ?_
  refine WA_seq (x := (fcd Try.f3 [0])) (y := (fcd Try.f3 [1])) ?_
  refine V_regionX Γ Δ [27, 34, 41, 48, 55, 62, 65, 68, 70, 81, 91, 101] [0, 1, 2, 3, 4, 5, 9, 10, 11, 12, 13, 14, 15, 16, 17, 18, 19, 20, 21, 22] (evs ?_)
  all_goals (try with_reducible (repeat' (first | apply And.intro | intro _)))
  all_goals (try (first | with_reducible refine wa_id ?_ | exact True.intro | omega))
  refine WA_seq (x := (fcd Try.f3 [1, 0])) (y := (fcd Try.f3 [1, 1])) ?_
  refine V_regionX Γ Δ [27, 34, 41, 48, 55, 62, 65, 68, 70, 81, 91, 101] [0, 1, 2, 3, 4, 5, 9, 10, 11, 12, 13, 14, 15, 16, 17, 18, 19, 20, 21, 22] (evs ?_)
  all_goals (try with_reducible (repeat' (first | apply And.intro | intro _)))
  all_goals (try (first | with_reducible refine wa_id ?_ | exact True.intro | exact new_fn _ _ _ | omega))
  refine WA_seq (x := (fcd Try.f3 [1, 1, 0])) (y := (fcd Try.f3 [1, 1, 1])) ?_
  refine V_regionX Γ Δ [27, 34, 41, 48, 55, 62, 65, 68, 70, 81, 91, 101] [0, 1, 2, 3, 4, 5, 9, 10, 11, 12, 13, 14, 15, 16, 17, 18, 19, 20, 21, 22] (evs ?_)
  all_goals (try with_reducible (repeat' (first | apply And.intro | intro _)))
  all_goals (try (first | with_reducible refine wa_id ?_ | exact True.intro | exact rnew_fn _ _ _ | omega))
  refine WA_seq (x := (fcd Try.f3 [1, 1, 1, 0])) (y := (fcd Try.f3 [1, 1, 1, 1])) ?_
  refine V_regionX Γ Δ [27, 34, 41, 48, 55, 62, 65, 68, 70, 81, 91, 101] [0, 1, 2, 3, 4, 5, 9, 10, 11, 12, 13, 14, 15, 16, 17, 18, 19, 20, 21, 22] (evs ?_)
  all_goals (try with_reducible (repeat' (first | apply And.intro | intro _)))
  all_goals (try (first | with_reducible refine wa_id ?_ | exact True.intro | exact mrect_fn _ _ ⟨_, _, _, _⟩ | omega))
  refine WA_seq (x := (fcd Try.f3 [1, 1, 1, 1, 0])) (y := (fcd Try.f3 [1, 1, 1, 1, 1])) ?_
  refine V_regionX Γ Δ [27, 34, 41, 48, 55, 62, 65, 68, 70, 81, 91, 101] [0, 1, 2, 3, 4, 5, 9, 10, 11, 12, 13, 14, 15, 16, 17, 18, 19, 20, 21, 22] (evs ?_)
  all_goals (try with_reducible (repeat' (first | apply And.intro | intro _)))
  all_goals (try (first | with_reducible refine wa_id ?_ | exact True.intro | exact rmrect_fn _ _ ⟨_, _, _, _⟩ | omega))
  refine WA_seq (x := (fcd Try.f3 [1, 1, 1, 1, 1, 0])) (y := (fcd Try.f3 [1, 1, 1, 1, 1, 1])) ?_
  refine V_regionX Γ Δ [27, 34, 41, 48, 55, 62, 65, 68, 70, 81, 91, 101] [0, 1, 2, 3, 4, 5, 9, 10, 11, 12, 13, 14, 15, 16, 17, 18, 19, 20, 21, 22] (evs ?_)
  all_goals (try with_reducible (repeat' (first | apply And.intro | intro _)))
  all_goals (try (first | with_reducible refine wa_id ?_ | exact True.intro | exact ell_fn _ _ ⟨_, _, _, _⟩ | omega))
  refine WA_seq (x := (fcd Try.f3 [1, 1, 1, 1, 1, 1, 0])) (y := (fcd Try.f3 [1, 1, 1, 1, 1, 1, 1])) ?_
  refine V_regionX Γ Δ [27, 34, 41, 48, 55, 62, 65, 68, 70, 81, 91, 101] [0, 1, 2, 3, 4, 5, 9, 10, 11, 12, 13, 14, 15, 16, 17, 18, 19, 20, 21, 22] (evs ?_)
  all_goals (try with_reducible (repeat' (first | apply And.intro | intro _)))
  all_goals (try (first | with_reducible refine wa_id ?_ | exact True.intro | exact rell_fn _ _ ⟨_, _, _, _⟩ | omega))
  refine WA_seq (x := (fcd Try.f3 [1, 1, 1, 1, 1, 1, 1, 0])) (y := (fcd Try.f3 [1, 1, 1, 1, 1, 1, 1, 1])) ?_
  refine V_draw Γ [27, 34, 41, 48, 55, 62, 65, 68, 70, 81, 91, 101] [0, 1, 2, 3, 4, 5, 9, 10, 11, 12, 13, 14, 15, 16, 17, 18, 19, 20, 21, 22] mixed (by kernel_rfl) (evs ?_)
  all_goals (try with_reducible (repeat' (first | apply And.intro | intro _)))
  all_goals (try (first | with_reducible refine wa_id ?_ | exact True.intro | exact awake_fn | exact mcheck_fn ⟨_, _, _⟩ | exact rmcheck_fn ⟨_, _, _⟩ | exact sameM_fn ⟨_, _, _⟩ ⟨_, _, _⟩ | omega))
  refine V_ret (evs ?_)
  first | exact True.intro | (simp [sameM, sameI]; done)

end Go.S23

