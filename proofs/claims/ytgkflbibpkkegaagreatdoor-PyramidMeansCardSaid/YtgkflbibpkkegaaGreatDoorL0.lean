import Derived.Test.YtgkflbibpkkegaaGreatDoorD3
import Derived.Test.YtgkflbibpkkegaaGreatDoorB6
import Derived.Test.YtgkflbibpkkegaaGreatDoorB12
set_option linter.unusedSimpArgs false
set_option linter.unusedVariables false
set_option linter.unusedSimpArgs false
set_option linter.unusedVariables false
namespace Go.S35
open Go.RowKit Go.Proofs Go.Eng Go.Rect
set_option maxHeartbeats 8000000 in
set_option maxRecDepth 100000 in
theorem awake_fn  : Eng.Fn Tryz.prog 14 [] (.dat (.b true)) := by
  refine Eng.Fn.by (fn := Tryz.f14) 153 [.tmp 0] Tryz.func14 rfl Tryz.ntmps14 rfl (by simp) fun w0 G0 => ?_
  refine WA_seq (x := (fcd Tryz.f14 [0])) (y := (fcd Tryz.f14 [1])) ?_
  refine V_regionX Γ Δ [27, 28, 38, 43, 44, 49, 50, 80, 118] [0, 1, 2, 3, 4, 5, 6, 7, 8, 9, 10, 12, 13, 14, 16] (evs ?_)
  all_goals (try with_reducible (repeat' (first | apply And.intro | intro _)))
  all_goals (try (first | with_reducible refine wa_id ?_ | exact True.intro | omega | exact row_fn [0, 10, 20] (by decide) | exact row_fn [1, 2, 3] (by decide) | exact row_fn [5, 20] (by decide) | exact psize_fn 5 3 1 | exact ptiles_fn 33 16 0 | exact phalf_fn (rowI [0, 10, 20]) | exact phalf_fn sqI | exact preduce_fn (rowI [1, 2, 3]) 0 | exact preduce_fn (rowI [1, 2, 3]) 5 | exact tile0_fn | exact tile1_fn | exact sameI_fn (hfI (rowI [0, 10, 20])) (rowI [5, 20]) | exact sameI_fn (redR (rowI [1, 2, 3]) 0) (rowI [1, 2, 3]) | exact pneeds_fn 5 3 1 ⟨2, 1, 1, 1⟩ | decide))
  refine WA_seq (x := (fcd Tryz.f14 [1, 0])) (y := (fcd Tryz.f14 [1, 1])) ?_
  refine V_regionX Γ Δ [27, 28, 38, 43, 44, 49, 50, 80, 118] [0, 1, 2, 3, 4, 5, 6, 7, 8, 9, 10, 12, 13, 14, 16] (evs ?_)
  all_goals (try with_reducible (repeat' (first | apply And.intro | intro _)))
  all_goals (try (first | with_reducible refine wa_id ?_ | exact True.intro | exact psize_fn _ _ _ | omega | exact row_fn [0, 10, 20] (by decide) | exact row_fn [1, 2, 3] (by decide) | exact row_fn [5, 20] (by decide) | exact psize_fn 5 3 1 | exact ptiles_fn 33 16 0 | exact phalf_fn (rowI [0, 10, 20]) | exact phalf_fn sqI | exact preduce_fn (rowI [1, 2, 3]) 0 | exact preduce_fn (rowI [1, 2, 3]) 5 | exact tile0_fn | exact tile1_fn | exact sameI_fn (hfI (rowI [0, 10, 20])) (rowI [5, 20]) | exact sameI_fn (redR (rowI [1, 2, 3]) 0) (rowI [1, 2, 3]) | exact pneeds_fn 5 3 1 ⟨2, 1, 1, 1⟩ | decide))
  refine WA_seq (x := (fcd Tryz.f14 [1, 1, 0])) (y := (fcd Tryz.f14 [1, 1, 1])) ?_
  refine V_regionX Γ Δ [27, 28, 38, 43, 44, 49, 50, 80, 118] [0, 1, 2, 3, 4, 5, 6, 7, 8, 9, 10, 12, 13, 14, 16] (evs ?_)
  all_goals (try with_reducible (repeat' (first | apply And.intro | intro _)))
  all_goals (try (first | with_reducible refine wa_id ?_ | exact True.intro | exact ptiles_fn _ _ _ | omega | exact row_fn [0, 10, 20] (by decide) | exact row_fn [1, 2, 3] (by decide) | exact row_fn [5, 20] (by decide) | exact psize_fn 5 3 1 | exact ptiles_fn 33 16 0 | exact phalf_fn (rowI [0, 10, 20]) | exact phalf_fn sqI | exact preduce_fn (rowI [1, 2, 3]) 0 | exact preduce_fn (rowI [1, 2, 3]) 5 | exact tile0_fn | exact tile1_fn | exact sameI_fn (hfI (rowI [0, 10, 20])) (rowI [5, 20]) | exact sameI_fn (redR (rowI [1, 2, 3]) 0) (rowI [1, 2, 3]) | exact pneeds_fn 5 3 1 ⟨2, 1, 1, 1⟩ | decide))
  refine WA_seq (x := (fcd Tryz.f14 [1, 1, 1, 0])) (y := (fcd Tryz.f14 [1, 1, 1, 1])) ?_
  refine V_regionX Γ Δ [27, 28, 38, 43, 44, 49, 50, 80, 118] [0, 1, 2, 3, 4, 5, 6, 7, 8, 9, 10, 12, 13, 14, 16] (evs ?_)
  all_goals (try with_reducible (repeat' (first | apply And.intro | intro _)))
  all_goals (try (first | with_reducible refine wa_id ?_ | exact True.intro | exact row_fn _ (by decide) | exact phalf_fn ⟨_, _, _⟩ | omega | exact row_fn [0, 10, 20] (by decide) | exact row_fn [1, 2, 3] (by decide) | exact row_fn [5, 20] (by decide) | exact psize_fn 5 3 1 | exact ptiles_fn 33 16 0 | exact phalf_fn (rowI [0, 10, 20]) | exact phalf_fn sqI | exact preduce_fn (rowI [1, 2, 3]) 0 | exact preduce_fn (rowI [1, 2, 3]) 5 | exact tile0_fn | exact tile1_fn | exact sameI_fn (hfI (rowI [0, 10, 20])) (rowI [5, 20]) | exact sameI_fn (redR (rowI [1, 2, 3]) 0) (rowI [1, 2, 3]) | exact pneeds_fn 5 3 1 ⟨2, 1, 1, 1⟩ | decide))
  refine WA_seq (x := (fcd Tryz.f14 [1, 1, 1, 1, 0])) (y := (fcd Tryz.f14 [1, 1, 1, 1, 1])) ?_
  refine V_regionX Γ Δ [27, 28, 38, 43, 44, 49, 50, 80, 118] [0, 1, 2, 3, 4, 5, 6, 7, 8, 9, 10, 12, 13, 14, 16] (evs ?_)
  all_goals (try with_reducible (repeat' (first | apply And.intro | intro _)))
  all_goals (try (first | with_reducible refine wa_id ?_ | exact True.intro | exact phalf_fn ⟨_, _, _⟩ | omega | exact row_fn [0, 10, 20] (by decide) | exact row_fn [1, 2, 3] (by decide) | exact row_fn [5, 20] (by decide) | exact psize_fn 5 3 1 | exact ptiles_fn 33 16 0 | exact phalf_fn (rowI [0, 10, 20]) | exact phalf_fn sqI | exact preduce_fn (rowI [1, 2, 3]) 0 | exact preduce_fn (rowI [1, 2, 3]) 5 | exact tile0_fn | exact tile1_fn | exact sameI_fn (hfI (rowI [0, 10, 20])) (rowI [5, 20]) | exact sameI_fn (redR (rowI [1, 2, 3]) 0) (rowI [1, 2, 3]) | exact pneeds_fn 5 3 1 ⟨2, 1, 1, 1⟩ | decide))
  refine WA_seq (x := (fcd Tryz.f14 [1, 1, 1, 1, 1, 0])) (y := (fcd Tryz.f14 [1, 1, 1, 1, 1, 1])) ?_
  refine V_regionX Γ Δ [27, 28, 38, 43, 44, 49, 50, 80, 118] [0, 1, 2, 3, 4, 5, 6, 7, 8, 9, 10, 12, 13, 14, 16] (evs ?_)
  all_goals (try with_reducible (repeat' (first | apply And.intro | intro _)))
  all_goals (try (first | with_reducible refine wa_id ?_ | exact True.intro | exact row_fn _ (by decide) | exact preduce_fn ⟨_, _, _⟩ _ | omega | exact row_fn [0, 10, 20] (by decide) | exact row_fn [1, 2, 3] (by decide) | exact row_fn [5, 20] (by decide) | exact psize_fn 5 3 1 | exact ptiles_fn 33 16 0 | exact phalf_fn (rowI [0, 10, 20]) | exact phalf_fn sqI | exact preduce_fn (rowI [1, 2, 3]) 0 | exact preduce_fn (rowI [1, 2, 3]) 5 | exact tile0_fn | exact tile1_fn | exact sameI_fn (hfI (rowI [0, 10, 20])) (rowI [5, 20]) | exact sameI_fn (redR (rowI [1, 2, 3]) 0) (rowI [1, 2, 3]) | exact pneeds_fn 5 3 1 ⟨2, 1, 1, 1⟩ | decide))
  refine WA_seq (x := (fcd Tryz.f14 [1, 1, 1, 1, 1, 1, 0])) (y := (fcd Tryz.f14 [1, 1, 1, 1, 1, 1, 1])) ?_
  refine V_regionX Γ Δ [27, 28, 38, 43, 44, 49, 50, 80, 118] [0, 1, 2, 3, 4, 5, 6, 7, 8, 9, 10, 12, 13, 14, 16] (evs ?_)
  all_goals (try with_reducible (repeat' (first | apply And.intro | intro _)))
  all_goals (try (first | with_reducible refine wa_id ?_ | exact True.intro | exact row_fn _ (by decide) | exact preduce_fn ⟨_, _, _⟩ _ | omega | exact row_fn [0, 10, 20] (by decide) | exact row_fn [1, 2, 3] (by decide) | exact row_fn [5, 20] (by decide) | exact psize_fn 5 3 1 | exact ptiles_fn 33 16 0 | exact phalf_fn (rowI [0, 10, 20]) | exact phalf_fn sqI | exact preduce_fn (rowI [1, 2, 3]) 0 | exact preduce_fn (rowI [1, 2, 3]) 5 | exact tile0_fn | exact tile1_fn | exact sameI_fn (hfI (rowI [0, 10, 20])) (rowI [5, 20]) | exact sameI_fn (redR (rowI [1, 2, 3]) 0) (rowI [1, 2, 3]) | exact pneeds_fn 5 3 1 ⟨2, 1, 1, 1⟩ | decide))
  refine WA_seq (x := (fcd Tryz.f14 [1, 1, 1, 1, 1, 1, 1, 0])) (y := (fcd Tryz.f14 [1, 1, 1, 1, 1, 1, 1, 1])) ?_
  refine V_regionX Γ Δ [27, 28, 38, 43, 44, 49, 50, 80, 118] [0, 1, 2, 3, 4, 5, 6, 7, 8, 9, 10, 12, 13, 14, 16] (evs ?_)
  all_goals (try with_reducible (repeat' (first | apply And.intro | intro _)))
  all_goals (try (first | with_reducible refine wa_id ?_ | exact True.intro | exact tile0_fn | omega | exact row_fn [0, 10, 20] (by decide) | exact row_fn [1, 2, 3] (by decide) | exact row_fn [5, 20] (by decide) | exact psize_fn 5 3 1 | exact ptiles_fn 33 16 0 | exact phalf_fn (rowI [0, 10, 20]) | exact phalf_fn sqI | exact preduce_fn (rowI [1, 2, 3]) 0 | exact preduce_fn (rowI [1, 2, 3]) 5 | exact tile0_fn | exact tile1_fn | exact sameI_fn (hfI (rowI [0, 10, 20])) (rowI [5, 20]) | exact sameI_fn (redR (rowI [1, 2, 3]) 0) (rowI [1, 2, 3]) | exact pneeds_fn 5 3 1 ⟨2, 1, 1, 1⟩ | decide))
  refine WA_seq (x := (fcd Tryz.f14 [1, 1, 1, 1, 1, 1, 1, 1, 0])) (y := (fcd Tryz.f14 [1, 1, 1, 1, 1, 1, 1, 1, 1])) ?_
  refine V_regionX Γ Δ [27, 28, 38, 43, 44, 49, 50, 80, 118] [0, 1, 2, 3, 4, 5, 6, 7, 8, 9, 10, 12, 13, 14, 16] (evs ?_)
  all_goals (try with_reducible (repeat' (first | apply And.intro | intro _)))
  all_goals (try (first | with_reducible refine wa_id ?_ | exact True.intro | exact tile0_fn | omega | exact row_fn [0, 10, 20] (by decide) | exact row_fn [1, 2, 3] (by decide) | exact row_fn [5, 20] (by decide) | exact psize_fn 5 3 1 | exact ptiles_fn 33 16 0 | exact phalf_fn (rowI [0, 10, 20]) | exact phalf_fn sqI | exact preduce_fn (rowI [1, 2, 3]) 0 | exact preduce_fn (rowI [1, 2, 3]) 5 | exact tile0_fn | exact tile1_fn | exact sameI_fn (hfI (rowI [0, 10, 20])) (rowI [5, 20]) | exact sameI_fn (redR (rowI [1, 2, 3]) 0) (rowI [1, 2, 3]) | exact pneeds_fn 5 3 1 ⟨2, 1, 1, 1⟩ | decide))
  refine WA_seq (x := (fcd Tryz.f14 [1, 1, 1, 1, 1, 1, 1, 1, 1, 0])) (y := (fcd Tryz.f14 [1, 1, 1, 1, 1, 1, 1, 1, 1, 1])) ?_
  refine V_draw Γ [27, 28, 38, 43, 44, 49, 50, 80, 118] [0, 1, 2, 3, 4, 5, 6, 7, 8, 9, 10, 12, 13, 14, 16] mixed (by kernel_rfl) (evs ?_)
  all_goals (try with_reducible (repeat' (first | apply And.intro | intro _)))
  all_goals (try (first | with_reducible refine wa_id ?_ | exact True.intro | exact row_fn _ (by decide) | exact sameI_fn ⟨_, _, _⟩ ⟨_, _, _⟩ | exact pneeds_fn _ _ _ ⟨_, _, _, _⟩ | omega | exact row_fn [0, 10, 20] (by decide) | exact row_fn [1, 2, 3] (by decide) | exact row_fn [5, 20] (by decide) | exact psize_fn 5 3 1 | exact ptiles_fn 33 16 0 | exact phalf_fn (rowI [0, 10, 20]) | exact phalf_fn sqI | exact preduce_fn (rowI [1, 2, 3]) 0 | exact preduce_fn (rowI [1, 2, 3]) 5 | exact tile0_fn | exact tile1_fn | exact sameI_fn (hfI (rowI [0, 10, 20])) (rowI [5, 20]) | exact sameI_fn (redR (rowI [1, 2, 3]) 0) (rowI [1, 2, 3]) | exact pneeds_fn 5 3 1 ⟨2, 1, 1, 1⟩ | decide))
  refine V_ret (evs ?_)
  first | exact True.intro | decide

end Go.S35

