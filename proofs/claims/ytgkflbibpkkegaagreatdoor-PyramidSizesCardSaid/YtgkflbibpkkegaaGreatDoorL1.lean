import Derived.Test.YtgkflbibpkkegaaGreatDoorL0
import Derived.Test.YtgkflbibpkkegaaGreatDoorB3
set_option linter.unusedSimpArgs false
set_option linter.unusedVariables false
set_option linter.unusedSimpArgs false
set_option linter.unusedVariables false
namespace Go.S35
open Go.RowKit Go.Proofs Go.Eng Go.Rect
set_option maxHeartbeats 4000000 in
set_option maxRecDepth 100000 in
theorem l_sizes (w h l : Int) (out : Rc) : Eng.Fn Tryz.prog 3 [.i w, .i h, .i l, rcD out] (.dat (.b true)) := by
  refine Eng.Fn.by (fn := Tryz.f3) 79 [.tmp 8] Tryz.func3 rfl Tryz.ntmps3 rfl (by simp) fun w0 G0 => ?_
  refine WA_seq (x := (fcd Tryz.f3 [0])) (y := (fcd Tryz.f3 [1])) ?_
  refine V_regionX Γ Δ [] [0, 1, 2, 3, 7, 8, 9, 10, 11, 12, 13, 14, 15, 16] (evs ?_)
  all_goals (try with_reducible (repeat' (first | apply And.intro | intro _)))
  all_goals (try (first | with_reducible refine wa_id ?_ | exact True.intro | omega))
  refine WA_seq (x := (fcd Tryz.f3 [1, 0])) (y := (fcd Tryz.f3 [1, 1])) ?_
  refine V_regionX Γ Δ [] [0, 1, 2, 3, 7, 8, 9, 10, 11, 12, 13, 14, 15, 16] (evs ?_)
  all_goals (try with_reducible (repeat' (first | apply And.intro | intro _)))
  all_goals (try (first | with_reducible refine wa_id ?_ | exact True.intro | exact psize_fn _ _ _ | omega))
  refine WA_seq (x := (fcd Tryz.f3 [1, 1, 0])) (y := (fcd Tryz.f3 [1, 1, 1])) ?_
  refine V_regionX Γ Δ [] [0, 1, 2, 3, 7, 8, 9, 10, 11, 12, 13, 14, 15, 16] (evs ?_)
  all_goals (try with_reducible (repeat' (first | apply And.intro | intro _)))
  all_goals (try (first | with_reducible refine wa_id ?_ | exact True.intro | exact rsize_fn _ _ _ | omega))
  refine WA_seq (x := (fcd Tryz.f3 [1, 1, 1, 0])) (y := (fcd Tryz.f3 [1, 1, 1, 1])) ?_
  refine V_regionX Γ Δ [] [0, 1, 2, 3, 7, 8, 9, 10, 11, 12, 13, 14, 15, 16] (evs ?_)
  all_goals (try with_reducible (repeat' (first | apply And.intro | intro _)))
  all_goals (try (first | with_reducible refine wa_id ?_ | exact True.intro | exact ptiles_fn _ _ _ | omega))
  refine WA_seq (x := (fcd Tryz.f3 [1, 1, 1, 1, 0])) (y := (fcd Tryz.f3 [1, 1, 1, 1, 1])) ?_
  refine V_regionX Γ Δ [] [0, 1, 2, 3, 7, 8, 9, 10, 11, 12, 13, 14, 15, 16] (evs ?_)
  all_goals (try with_reducible (repeat' (first | apply And.intro | intro _)))
  all_goals (try (first | with_reducible refine wa_id ?_ | exact True.intro | exact rtiles_fn _ _ _ | omega))
  refine WA_seq (x := (fcd Tryz.f3 [1, 1, 1, 1, 1, 0])) (y := (fcd Tryz.f3 [1, 1, 1, 1, 1, 1])) ?_
  refine V_draw Γ [] [0, 1, 2, 3, 7, 8, 9, 10, 11, 12, 13, 14, 15, 16] mixed (by kernel_rfl) (evs ?_)
  all_goals (try with_reducible (repeat' (first | apply And.intro | intro _)))
  all_goals (try (first | with_reducible refine wa_id ?_ | exact True.intro | exact pneeds_fn _ _ _ ⟨_, _, _, _⟩ | exact rneeds_fn _ _ _ ⟨_, _, _, _⟩ | exact awake_fn | omega))
  refine V_ret (evs ?_)
  first | rfl | (simp; done) | (simp; done)

end Go.S35

