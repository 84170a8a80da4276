import Derived.Test.YtdillkdhpalgcaaB8
import Derived.Test.YtdillkdhpalgcaaLF
set_option linter.unusedSimpArgs false
set_option linter.unusedVariables false
set_option linter.unusedSimpArgs false
set_option linter.unusedVariables false
namespace Go.S16
open Go.RowKit Go.Proofs Go.Eng Go.Rect
set_option maxHeartbeats 2000000 in
set_option maxRecDepth 100000 in
/-- imageeditor/imageeditorlaw16.example -/
theorem example_fn  : Eng.Fn Try.prog 13 [] (.dat (.b true)) := by
  refine Eng.Fn.by (fn := Try.f13) 82 [.tmp 0] Try.func13 rfl Try.ntmps13 rfl (by simp) fun w0 G0 => ?_
  refine WA_seq (x := (fcd Try.f13 [0])) (y := (fcd Try.f13 [1])) ?_
  refine V_regionX Γ Δ [19, 25] [0, 1, 2, 3, 4, 5, 6, 7, 8, 45] (evs ?_)
  all_goals (try with_reducible (repeat' (first | apply And.intro | intro _)))
  all_goals (try (first | with_reducible refine wa_id ?_ | exact True.intro | omega | exact whole_fn exI 1 [1] | exact whole_fn exI 2 [1] | exact fcheck_fn 2 [8] | exact freach_fn 9 [2, -3]))
  refine WA_seq (x := (fcd Try.f13 [1, 0])) (y := (fcd Try.f13 [1, 1])) ?_
  refine V_regionX Γ Δ [19, 25] [0, 1, 2, 3, 4, 5, 6, 7, 8, 45] (evs ?_)
  all_goals (try with_reducible (repeat' (first | apply And.intro | intro _)))
  all_goals (try (first | with_reducible refine wa_id ?_ | exact True.intro | omega | exact whole_fn exI 1 [1] | exact whole_fn exI 2 [1] | exact fcheck_fn 2 [8] | exact freach_fn 9 [2, -3]))
  refine WA_seq (x := (fcd Try.f13 [1, 1, 0])) (y := (fcd Try.f13 [1, 1, 1])) ?_
  refine V_regionX Γ Δ [19, 25] [0, 1, 2, 3, 4, 5, 6, 7, 8, 45] (evs ?_)
  all_goals (try with_reducible (repeat' (first | apply And.intro | intro _)))
  all_goals (try (first | with_reducible refine wa_id ?_ | exact True.intro | omega | exact whole_fn exI 1 [1] | exact whole_fn exI 2 [1] | exact fcheck_fn 2 [8] | exact freach_fn 9 [2, -3]))
  refine WA_seq (x := (fcd Try.f13 [1, 1, 1, 0])) (y := (fcd Try.f13 [1, 1, 1, 1])) ?_
  refine V_regionX Γ Δ [19, 25] [0, 1, 2, 3, 4, 5, 6, 7, 8, 45] (evs ?_)
  all_goals (try with_reducible (repeat' (first | apply And.intro | intro _)))
  all_goals (try (first | with_reducible refine wa_id ?_ | exact True.intro | omega | exact whole_fn exI 1 [1] | exact whole_fn exI 2 [1] | exact fcheck_fn 2 [8] | exact freach_fn 9 [2, -3]))
  refine WA_seq (x := (fcd Try.f13 [1, 1, 1, 1, 0])) (y := (fcd Try.f13 [1, 1, 1, 1, 1])) ?_
  refine V_regionX Γ Δ [19, 25] [0, 1, 2, 3, 4, 5, 6, 7, 8, 45] (evs ?_)
  all_goals (try with_reducible (repeat' (first | apply And.intro | intro _)))
  all_goals (try (first | with_reducible refine wa_id ?_ | exact True.intro | exact whole_fn ⟨_, _, _⟩ _ _ | omega | exact whole_fn exI 1 [1] | exact whole_fn exI 2 [1] | exact fcheck_fn 2 [8] | exact freach_fn 9 [2, -3]))
  simp only [exU, unIV]
  refine WA_seq (x := (fcd Try.f13 [1, 1, 1, 1, 1, 0])) (y := (fcd Try.f13 [1, 1, 1, 1, 1, 1])) ?_
  refine V_regionX Γ Δ [19, 25] [0, 1, 2, 3, 4, 5, 6, 7, 8, 45] (evs ?_)
  all_goals (try with_reducible (repeat' (first | apply And.intro | intro _)))
  all_goals (try (first | with_reducible refine wa_id ?_ | exact True.intro | exact whole_fn ⟨_, _, _⟩ _ _ | omega | exact whole_fn exI 1 [1] | exact whole_fn exI 2 [1] | exact fcheck_fn 2 [8] | exact freach_fn 9 [2, -3]))
  simp only [exU, unIV]
  refine WA_seq (x := (fcd Try.f13 [1, 1, 1, 1, 1, 1, 0])) (y := (fcd Try.f13 [1, 1, 1, 1, 1, 1, 1])) ?_
  refine WA_seq (x := (fcd Try.f13 [1, 1, 1, 1, 1, 1, 0, 0])) (y := (fcd Try.f13 [1, 1, 1, 1, 1, 1, 0, 1])) ?_
  refine V_regionX Γ Δ [19, 25] [0, 1, 2, 3, 4, 5, 6, 7, 8, 45] (evs ?_)
  all_goals (try with_reducible (repeat' (first | apply And.intro | intro _)))
  all_goals (try (first | with_reducible refine wa_id ?_ | exact True.intro | omega | exact whole_fn exI 1 [1] | exact whole_fn exI 2 [1] | exact fcheck_fn 2 [8] | exact freach_fn 9 [2, -3]))
  simp only [exB.1, exB.2.2.2, exG.1, exG.2.2, c9e, bne_self_eq_false, Bool.or_self]
  refine V_cond (evs ?_)
  refine ⟨fun hc => hc.elim, ?_⟩
  refine WA_skip ?_
  refine WA_seq (x := (fcd Try.f13 [1, 1, 1, 1, 1, 1, 1, 0])) (y := (fcd Try.f13 [1, 1, 1, 1, 1, 1, 1, 1])) ?_
  refine V_drawA Γ [(0, 1, 1000000), (1, 1, 1000000), (4, 7, 1000000), (5, 8, 1000000)] [19, 25] [0, 1, 2, 3, 4, 5, 6, 7, 8, 45] mixed (by kernel_rfl) (evs ?_)
  all_goals (try with_reducible (repeat' (first | apply And.intro | intro _)))
  all_goals (try (first | with_reducible refine wa_id ?_ | exact True.intro | omega | exact whole_fn exI 1 [1] | exact whole_fn exI 2 [1] | exact fcheck_fn 2 [8] | exact freach_fn 9 [2, -3]))
  refine WA_seq (x := (fcd Try.f13 [1, 1, 1, 1, 1, 1, 1, 1, 0])) (y := (fcd Try.f13 [1, 1, 1, 1, 1, 1, 1, 1, 1])) ?_
  refine V_regionX Γ Δ [19, 25] [0, 1, 2, 3, 4, 5, 6, 7, 8, 45] (evs ?_)
  all_goals (try with_reducible (repeat' (first | apply And.intro | intro _)))
  all_goals (try (first | with_reducible refine wa_id ?_ | exact True.intro | omega | exact whole_fn exI 1 [1] | exact whole_fn exI 2 [1] | exact fcheck_fn 2 [8] | exact freach_fn 9 [2, -3]))
  refine WA_seq (x := (fcd Try.f13 [1, 1, 1, 1, 1, 1, 1, 1, 1, 0])) (y := (fcd Try.f13 [1, 1, 1, 1, 1, 1, 1, 1, 1, 1])) ?_
  refine V_draw Γ [19, 25] [0, 1, 2, 3, 4, 5, 6, 7, 8, 45] mixed (by kernel_rfl) (evs ?_)
  simp only [exB.1, exB.2.1, exB.2.2.1, exG.1, exG.2.1, c9e, toN0, toN4]
  all_goals (try with_reducible (repeat' (first | apply And.intro | intro _)))
  all_goals (try (first | with_reducible refine wa_id ?_ | exact True.intro | exact fcheck_fn _ _ | exact freach_fn _ _ | omega | exact whole_fn exI 1 [1] | exact whole_fn exI 2 [1] | exact fcheck_fn 2 [8] | exact freach_fn 9 [2, -3]))
  refine V_ret (evs ?_)
  first | rfl | (decide +kernel)

end Go.S16

