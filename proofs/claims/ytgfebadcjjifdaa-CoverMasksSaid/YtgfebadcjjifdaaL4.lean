import Derived.Test.YtgfebadcjjifdaaA15
namespace Go.S20
open Go.RowKit Go.Proofs Go.Eng Go.Rect
/-- imageeditor/imageeditorlaw20.CoverMasks -/
theorem l_masks (ps : List (List Pt)) (rule : Int) (r : Rc) : Eng.Fn Try.prog 4 [.sl 1 (ps.map plyC), .i rule, rcD r] (.dat (.b true)) := by
  refine Eng.Fn.by (fn := Try.f4) 36 [.tmp 6] Try.func4 rfl Try.ntmps4 rfl (by simp) fun w0 => ?_
  refine WA_seq (x := (fcd Try.f4 [0])) (y := (fcd Try.f4 [1])) ?_
  refine V_regionX Γ Δ [15, 22] [0, 1, 2, 5, 6, 7, 8, 9, 10] (evs ?_)
  all_goals (try with_reducible (repeat' (first | apply And.intro | intro _)))
  all_goals (try (first | with_reducible refine wa_id ?_ | exact True.intro | omega))
  refine WA_seq (x := (fcd Try.f4 [1, 0])) (y := (fcd Try.f4 [1, 1])) ?_
  refine V_regionX Γ Δ [15, 22] [0, 1, 2, 5, 6, 7, 8, 9, 10] (evs ?_)
  all_goals (try with_reducible (repeat' (first | apply And.intro | intro _)))
  all_goals (try (first | with_reducible refine wa_id ?_ | exact True.intro | exact cmask_fn _ _ ⟨_, _, _, _⟩ | omega))
  refine WA_seq (x := (fcd Try.f4 [1, 1, 0])) (y := (fcd Try.f4 [1, 1, 1])) ?_
  refine V_regionX Γ Δ [15, 22] [0, 1, 2, 5, 6, 7, 8, 9, 10] (evs ?_)
  all_goals (try with_reducible (repeat' (first | apply And.intro | intro _)))
  all_goals (try (first | with_reducible refine wa_id ?_ | exact True.intro | exact rmask_fn _ _ ⟨_, _, _, _⟩ | omega))
  refine WA_seq (x := (fcd Try.f4 [1, 1, 1, 0])) (y := (fcd Try.f4 [1, 1, 1, 1])) ?_
  refine V_regionX Γ Δ [15, 22] [0, 1, 2, 5, 6, 7, 8, 9, 10] (evs ?_)
  all_goals (try with_reducible (repeat' (first | apply And.intro | intro _)))
  all_goals (try (first | with_reducible refine wa_id ?_ | exact True.intro | exact awake_fn | exact sameM_fn ⟨_, _, _⟩ ⟨_, _, _⟩ | omega))
  refine V_ret (evs ?_)
  simp [sameM]

end Go.S20

