import Derived.Test.YtnbeigcjhpldmaaL0
import Derived.Test.YtnbeigcjhpldmaaMA
set_option linter.unusedSimpArgs false
set_option linter.unusedVariables false
set_option linter.unusedSimpArgs false
set_option linter.unusedVariables false
namespace Go.S03
open Go.RowKit Go.Proofs Go.Eng Go.Rect
set_option maxHeartbeats 4000000 in
set_option maxRecDepth 100000 in
/-- imageeditor/imageeditorlaw03.RegionAreas -/
theorem areas_fn (a b : List Rc) : Eng.Fn Try.prog 7 [.sl 4 (a.map rcC), .sl 4 (b.map rcC)] (.dat (.b true)) := by
  refine Eng.Fn.by (fn := Try.f7) 84 [.tmp 4] Try.func7 rfl Try.ntmps7 rfl (by simp) fun w0 G0 => ?_
  refine WA_seq (x := (fcd Try.f7 [0])) (y := (fcd Try.f7 [1])) ?_
  refine V_regionX Γ Δ [] [0, 1, 4, 5, 6, 7, 29] (evs ?_)
  all_goals (try with_reducible (repeat' (first | apply And.intro | intro _)))
  all_goals (try (first | with_reducible refine wa_id ?_ | exact True.intro | omega | exact al3 hc | exact al4 | exact al5))
  refine WA_seq (x := (fcd Try.f7 [1, 0])) (y := (fcd Try.f7 [1, 1])) ?_
  refine V_regionX Γ Δ [] [0, 1, 4, 5, 6, 7, 29] (evs ?_)
  all_goals (try with_reducible (repeat' (first | apply And.intro | intro _)))
  all_goals (try (first | with_reducible refine wa_id ?_ | exact True.intro | exact union_fn _ _ | exact common_fn _ _ | exact minus_fn _ _ | omega | exact al3 hc | exact al4 | exact al5))
  refine WA_seq (x := (fcd Try.f7 [1, 1, 0])) (y := (fcd Try.f7 [1, 1, 1])) ?_
  refine WA_seq (x := (fcd Try.f7 [1, 1, 0, 0])) (y := (fcd Try.f7 [1, 1, 0, 1])) ?_
  refine V_regionX Γ Δ [] [0, 1, 4, 5, 6, 7, 29] (evs ?_)
  all_goals (try with_reducible (repeat' (first | apply And.intro | intro _)))
  all_goals (try (first | with_reducible refine wa_id ?_ | exact True.intro | omega | exact al3 hc | exact al4 | exact al5))
  refine V_cond (evs ?_)
  refine ⟨fun hc => ?_, fun hc => ?_⟩
  · refine WA_seq (x := (fcd Try.f7 [1, 1, 0, 1, 0, 0])) (y := (fcd Try.f7 [1, 1, 0, 1, 0, 1])) ?_
    refine V_regionX Γ Δ [] [0, 1, 4, 5, 6, 7, 29] (evs ?_)
    all_goals (try with_reducible (repeat' (first | apply And.intro | intro _)))
    all_goals (try (first | with_reducible refine wa_id ?_ | exact True.intro | exact awake_fn | omega | exact al3 hc | exact al4 | exact al5))
    refine V_ret (evs ?_)
    first | exact True.intro | rfl | exact areas_law hc
  · refine WA_skip ?_
    refine WA_seq (x := (fcd Try.f7 [1, 1, 1, 0])) (y := (fcd Try.f7 [1, 1, 1, 1])) ?_
    refine V_regionX Γ Δ [] [0, 1, 4, 5, 6, 7, 29] (evs ?_)
    all_goals (try with_reducible (repeat' (first | apply And.intro | intro _)))
    all_goals (try (first | with_reducible refine wa_id ?_ | exact True.intro | exact area3_fn _ | exact union_fn _ _ | exact of3_fn _ | exact lalike_fn _ _ | exact common_fn _ _ | exact awake_fn | omega | exact al3 hc | exact al4 | exact al5))
    refine V_ret (evs ?_)
    first | exact True.intro | rfl | exact areas_law hc

end Go.S03

