import Derived.Test.YtnbeigcjhpldmaaL0
import Derived.Test.YtnbeigcjhpldmaaMB
set_option linter.unusedSimpArgs false
set_option linter.unusedVariables false
set_option linter.unusedSimpArgs false
set_option linter.unusedVariables false
namespace Go.S03
open Go.RowKit Go.Proofs Go.Eng Go.Rect
set_option maxRecDepth 100000 in
/-- imageeditor/imageeditorlaw03.RegionGrowth -/
theorem growth_fn (a : List Rc) (n m : Int) : Eng.Fn Try.prog 8 [.sl 4 (a.map rcC), .i n, .i m] (.dat (.b true)) := by
  refine Eng.Fn.by (fn := Try.f8) 51 [.tmp 6] Try.func8 rfl Try.ntmps8 rfl (by simp) fun w0 G0 => ?_
  refine WA_seq (x := (fcd Try.f8 [0])) (y := (fcd Try.f8 [1])) ?_
  refine V_regionX Γ Δ [] [0, 1, 2, 6, 7, 23, 30] (evs ?_)
  all_goals (try with_reducible (repeat' (first | apply And.intro | intro _)))
  all_goals (try (first | with_reducible refine wa_id ?_ | exact True.intro | omega))
  refine WA_seq (x := (fcd Try.f8 [1, 0])) (y := (fcd Try.f8 [1, 1])) ?_
  refine WA_seq (x := (fcd Try.f8 [1, 0, 0])) (y := (fcd Try.f8 [1, 0, 1])) ?_
  refine V_regionX Γ Δ [] [0, 1, 2, 6, 7, 23, 30] (evs ?_)
  all_goals (try with_reducible (repeat' (first | apply And.intro | intro _)))
  all_goals (try (first | with_reducible refine wa_id ?_ | exact True.intro | omega))
  refine V_cond (evs ?_)
  refine ⟨fun hc => ?_, fun hc => ?_⟩
  · refine WA_seq (x := (fcd Try.f8 [1, 0, 1, 0, 0])) (y := (fcd Try.f8 [1, 0, 1, 0, 1])) ?_
    refine V_regionX Γ Δ [] [0, 1, 2, 6, 7, 23, 30] (evs ?_)
    all_goals (try with_reducible (repeat' (first | apply And.intro | intro _)))
    all_goals (try (first | with_reducible refine wa_id ?_ | exact True.intro | exact awake_fn | omega))
    refine V_ret (evs ?_)
    first | exact True.intro | rfl | exact growth_law ‹_› hc
  · refine WA_skip ?_
    refine WA_seq (x := (fcd Try.f8 [1, 1, 0])) (y := (fcd Try.f8 [1, 1, 1])) ?_
    refine V_regionX Γ Δ [] [0, 1, 2, 6, 7, 23, 30] (evs ?_)
    all_goals (try with_reducible (repeat' (first | apply And.intro | intro _)))
    all_goals (try (first | with_reducible refine wa_id ?_ | exact True.intro | exact grow3_fn _ _ | omega))
    refine WA_seq (x := (fcd Try.f8 [1, 1, 1, 0])) (y := (fcd Try.f8 [1, 1, 1, 1])) ?_
    refine WA_seq (x := (fcd Try.f8 [1, 1, 1, 0, 0])) (y := (fcd Try.f8 [1, 1, 1, 0, 1])) ?_
    refine V_regionX Γ Δ [] [0, 1, 2, 6, 7, 23, 30] (evs ?_)
    all_goals (try with_reducible (repeat' (first | apply And.intro | intro _)))
    all_goals (try (first | with_reducible refine wa_id ?_ | exact True.intro | omega))
    refine V_cond (evs ?_)
    refine ⟨fun hc => ?_, fun hc => ?_⟩
    · refine WA_seq (x := (fcd Try.f8 [1, 1, 1, 0, 1, 0, 0])) (y := (fcd Try.f8 [1, 1, 1, 0, 1, 0, 1])) ?_
      refine V_regionX Γ Δ [] [0, 1, 2, 6, 7, 23, 30] (evs ?_)
      all_goals (try with_reducible (repeat' (first | apply And.intro | intro _)))
      all_goals (try (first | with_reducible refine wa_id ?_ | exact True.intro | exact awake_fn | omega))
      refine V_ret (evs ?_)
      first | exact True.intro | rfl | exact growth_law ‹_› hc
    · refine WA_skip ?_
      refine WA_seq (x := (fcd Try.f8 [1, 1, 1, 1, 0])) (y := (fcd Try.f8 [1, 1, 1, 1, 1])) ?_
      refine V_regionX Γ Δ [] [0, 1, 2, 6, 7, 23, 30] (evs ?_)
      all_goals (try with_reducible (repeat' (first | apply And.intro | intro _)))
      all_goals (try (first | with_reducible refine wa_id ?_ | exact True.intro | exact grow3_fn _ _ | exact lalike_fn _ _ | exact minus_fn _ _ | exact awake_fn | omega))
      refine V_ret (evs ?_)
      first | exact True.intro | rfl | exact growth_law ‹_› hc

end Go.S03

