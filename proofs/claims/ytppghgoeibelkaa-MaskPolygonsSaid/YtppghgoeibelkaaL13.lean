import Derived.Test.YtppghgoeibelkaaB23
import Derived.Test.YtppghgoeibelkaaC9
set_option linter.unusedSimpArgs false
set_option linter.unusedVariables false
namespace Go.S23
open Go.RowKit Go.Proofs Go.Eng Go.Rect
set_option maxHeartbeats 8000000 in
/-- imageeditor/imageeditorlaw23.MaskPolygons -/
theorem l_polygons (w h : Int) (p : List Pt) : Eng.Fn Try.prog 13 [.i w, .i h, .sl 2 (p.map ptC)] (.dat (.b true)) := by
  refine Eng.Fn.by (fn := Try.f13) 36 [.tmp 6] Try.func13 rfl Try.ntmps13 rfl (by simp) fun w0 => ?_
  refine WA_seq (x := (fcd Try.f13 [0])) (y := (fcd Try.f13 [1])) ?_
  refine V_regionX Γ Δ [15, 22, 25, 34] [0, 1, 2, 6, 7, 8, 9, 10] (evs ?_)
  all_goals (try with_reducible (repeat' (first | apply And.intro | intro _)))
  all_goals (try (first | with_reducible refine wa_id ?_ | exact True.intro | omega))
  refine WA_seq (x := (fcd Try.f13 [1, 0])) (y := (fcd Try.f13 [1, 1])) ?_
  refine V_regionX Γ Δ [15, 22, 25, 34] [0, 1, 2, 6, 7, 8, 9, 10] (evs ?_)
  all_goals (try with_reducible (repeat' (first | apply And.intro | intro _)))
  all_goals (try (first | with_reducible refine wa_id ?_ | exact True.intro | exact poly_fn _ _ _ | omega))
  refine WA_seq (x := (fcd Try.f13 [1, 1, 0])) (y := (fcd Try.f13 [1, 1, 1])) ?_
  refine V_regionX Γ Δ [15, 22, 25, 34] [0, 1, 2, 6, 7, 8, 9, 10] (evs ?_)
  all_goals (try with_reducible (repeat' (first | apply And.intro | intro _)))
  all_goals (try (first | with_reducible refine wa_id ?_ | exact True.intro | exact rpoly_fn _ _ _ | omega))
  refine WA_seq (x := (fcd Try.f13 [1, 1, 1, 0])) (y := (fcd Try.f13 [1, 1, 1, 1])) ?_
  refine V_regionX Γ Δ [15, 22, 25, 34] [0, 1, 2, 6, 7, 8, 9, 10] (evs ?_)
  all_goals (try with_reducible (repeat' (first | apply And.intro | intro _)))
  all_goals (try (first | with_reducible refine wa_id ?_ | exact True.intro | exact awake_fn | exact sameM_fn ⟨_, _, _⟩ ⟨_, _, _⟩ | omega))
  refine V_ret (evs ?_)
  first | exact True.intro | (simp [sameM, sameI]; done)

end Go.S23

