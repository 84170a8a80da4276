import Derived.Test.YtdillkdhpalgcaaB9
set_option linter.unusedSimpArgs false
set_option linter.unusedVariables false
namespace Go.S16
open Go.RowKit Go.Proofs Go.Eng Go.Rect
set_option maxHeartbeats 2000000 in
/-- imageeditor/imageeditorlaw16.FilterNeeds -/
theorem l_needs (k : Int) (ps : List Int) (r s : Rc) : Eng.Fn Try.prog 3 [.agg [.i k, .sl 1 (ps.map iC), .i r.x, .i r.y, .i r.w, .i r.h, .i s.x, .i s.y, .i s.w, .i s.h]] (.dat (.b true)) := by
  refine Eng.Fn.by (fn := Try.f3) 68 [.tmp 2] Try.func3 rfl Try.ntmps3 rfl (by simp) fun w0 G0 => ?_
  refine WA_seq (x := (fcd Try.f3 [0])) (y := (fcd Try.f3 [1])) ?_
  refine V_regionX Γ Δ [] [0, 1, 2, 3, 4, 5, 6] (evs ?_)
  all_goals (try with_reducible (repeat' (first | apply And.intro | intro _)))
  all_goals (try (first | with_reducible refine wa_id ?_ | exact True.intro | omega | exact fneed_fn _ _ ⟨_, _, _, _⟩ ⟨_, _, _, _⟩ | exact rfneed_fn _ _ ⟨_, _, _, _⟩ ⟨_, _, _, _⟩))
  refine WA_seq (x := (fcd Try.f3 [1, 0])) (y := (fcd Try.f3 [1, 1])) ?_
  refine V_regionX Γ Δ [] [0, 1, 2, 3, 4, 5, 6] (evs ?_)
  all_goals (try with_reducible (repeat' (first | apply And.intro | intro _)))
  all_goals (try (first | with_reducible refine wa_id ?_ | exact True.intro | exact fneed_fn _ _ ⟨_, _, _, _⟩ ⟨_, _, _, _⟩ | omega | exact fneed_fn _ _ ⟨_, _, _, _⟩ ⟨_, _, _, _⟩ | exact rfneed_fn _ _ ⟨_, _, _, _⟩ ⟨_, _, _, _⟩))
  refine WA_seq (x := (fcd Try.f3 [1, 1, 0])) (y := (fcd Try.f3 [1, 1, 1])) ?_
  refine V_regionX Γ Δ [] [0, 1, 2, 3, 4, 5, 6] (evs ?_)
  all_goals (try with_reducible (repeat' (first | apply And.intro | intro _)))
  all_goals (try (first | with_reducible refine wa_id ?_ | exact True.intro | exact rfneed_fn _ _ ⟨_, _, _, _⟩ ⟨_, _, _, _⟩ | omega | exact fneed_fn _ _ ⟨_, _, _, _⟩ ⟨_, _, _, _⟩ | exact rfneed_fn _ _ ⟨_, _, _, _⟩ ⟨_, _, _, _⟩))
  refine WA_seq (x := (fcd Try.f3 [1, 1, 1, 0])) (y := (fcd Try.f3 [1, 1, 1, 1])) ?_
  refine V_draw Γ [] [0, 1, 2, 3, 4, 5, 6] mixed (by kernel_rfl) (evs ?_)
  all_goals (try with_reducible (repeat' (first | apply And.intro | intro _)))
  all_goals (try (first | with_reducible refine wa_id ?_ | exact True.intro | exact fcheck_fn _ _ | exact rfcheck_fn _ _ | exact freach_fn _ _ | exact rfreach_fn _ _ | exact example_fn | omega | exact fneed_fn _ _ ⟨_, _, _, _⟩ ⟨_, _, _, _⟩ | exact rfneed_fn _ _ ⟨_, _, _, _⟩ ⟨_, _, _, _⟩))
  refine V_ret (evs ?_)
  first | rfl | (simp; done)

end Go.S16

