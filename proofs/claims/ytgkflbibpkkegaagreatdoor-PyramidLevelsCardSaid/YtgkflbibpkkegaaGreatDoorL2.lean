import Derived.Test.YtgkflbibpkkegaaGreatDoorL0
import Derived.Test.YtgkflbibpkkegaaGreatDoorB10
set_option linter.unusedSimpArgs false
set_option linter.unusedVariables false
set_option linter.unusedSimpArgs false
set_option linter.unusedVariables false
namespace Go.S35
open Go.RowKit Go.Proofs Go.Eng Go.Rect
set_option maxHeartbeats 4000000 in
set_option maxRecDepth 100000 in
theorem l_levels (m : Im) (l : Int) : Eng.Fn Tryz.prog 4 [imD m, .i l] (.dat (.b true)) := by
  refine Eng.Fn.by (fn := Tryz.f4) 56 [.tmp 4] Tryz.func4 rfl Tryz.ntmps4 rfl (by simp) fun w0 G0 => ?_
  refine WA_seq (x := (fcd Tryz.f4 [0])) (y := (fcd Tryz.f4 [1])) ?_
  refine V_regionX Γ Δ [15, 20] [0, 1, 2, 4, 5, 6, 7, 8, 9, 10, 11, 12] (evs ?_)
  all_goals (try with_reducible (repeat' (first | apply And.intro | intro _)))
  all_goals (try (first | with_reducible refine wa_id ?_ | exact True.intro | omega | exact sameI_fn _ _))
  refine WA_seq (x := (fcd Tryz.f4 [1, 0])) (y := (fcd Tryz.f4 [1, 1])) ?_
  refine V_regionX Γ Δ [15, 20] [0, 1, 2, 4, 5, 6, 7, 8, 9, 10, 11, 12] (evs ?_)
  all_goals (try with_reducible (repeat' (first | apply And.intro | intro _)))
  all_goals (try (first | with_reducible refine wa_id ?_ | exact True.intro | exact phalf_fn ⟨_, _, _⟩ | omega | exact sameI_fn _ _))
  refine WA_seq (x := (fcd Tryz.f4 [1, 1, 0])) (y := (fcd Tryz.f4 [1, 1, 1])) ?_
  refine V_regionX Γ Δ [15, 20] [0, 1, 2, 4, 5, 6, 7, 8, 9, 10, 11, 12] (evs ?_)
  all_goals (try with_reducible (repeat' (first | apply And.intro | intro _)))
  all_goals (try (first | with_reducible refine wa_id ?_ | exact True.intro | exact rhalf_fn ⟨_, _, _⟩ | omega | exact sameI_fn _ _))
  refine WA_seq (x := (fcd Tryz.f4 [1, 1, 1, 0])) (y := (fcd Tryz.f4 [1, 1, 1, 1])) ?_
  refine V_regionX Γ Δ [15, 20] [0, 1, 2, 4, 5, 6, 7, 8, 9, 10, 11, 12] (evs ?_)
  all_goals (try with_reducible (repeat' (first | apply And.intro | intro _)))
  all_goals (try (first | with_reducible refine wa_id ?_ | exact True.intro | exact preduce_fn ⟨_, _, _⟩ _ | omega | exact sameI_fn _ _))
  refine WA_seq (x := (fcd Tryz.f4 [1, 1, 1, 1, 0])) (y := (fcd Tryz.f4 [1, 1, 1, 1, 1])) ?_
  refine V_regionX Γ Δ [15, 20] [0, 1, 2, 4, 5, 6, 7, 8, 9, 10, 11, 12] (evs ?_)
  all_goals (try with_reducible (repeat' (first | apply And.intro | intro _)))
  all_goals (try (first | with_reducible refine wa_id ?_ | exact True.intro | exact rreduce_fn ⟨_, _, _⟩ _ | omega | exact sameI_fn _ _))
  refine WA_seq (x := (fcd Tryz.f4 [1, 1, 1, 1, 1, 0])) (y := (fcd Tryz.f4 [1, 1, 1, 1, 1, 1])) ?_
  refine V_regionX Γ Δ [15, 20] [0, 1, 2, 4, 5, 6, 7, 8, 9, 10, 11, 12] (evs ?_)
  all_goals (try with_reducible (repeat' (first | apply And.intro | intro _)))
  all_goals (try (first | with_reducible refine wa_id ?_ | exact True.intro | exact sameI_fn ⟨_, _, _⟩ ⟨_, _, _⟩ | exact awake_fn | omega | exact sameI_fn _ _))
  refine V_ret (evs ?_)
  first | rfl | (simp; done) | (simp [sameI]; done)

end Go.S35

