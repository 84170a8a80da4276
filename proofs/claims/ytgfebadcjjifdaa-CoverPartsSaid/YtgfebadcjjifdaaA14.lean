import Derived.Test.YtgfebadcjjifdaaA12
namespace Go.S20
open Go.RowKit Go.Proofs Go.Eng Go.Rect
/-- imageeditor/imageeditorlaw20.square -/
theorem square_fn (a b c d : Int) : Eng.Fn Try.prog 23 [.i a, .i b, .i c, .i d] (.own 48 2 ((squareL a b c d).map ptC)) := by
  refine Eng.Fn.by (fn := Try.f23) 22 [.tmp 8] Try.func23 rfl Try.ntmps23 rfl (by simp) fun w0 => ?_
  refine WA_seq (x := (fcd Try.f23 [0])) (y := (fcd Try.f23 [1])) ?_
  refine V_regionX Γ Δ [] [0, 1, 2, 3, 8] (evs ?_)
  all_goals (try with_reducible (repeat' (first | apply And.intro | intro _)))
  all_goals (try (first | with_reducible refine wa_id ?_ | exact True.intro | omega))
  refine WA_seq (x := (fcd Try.f23 [1, 0])) (y := (fcd Try.f23 [1, 1])) ?_
  refine V_regionX Γ Δ [] [0, 1, 2, 3, 8] (evs ?_)
  all_goals (try with_reducible (repeat' (first | apply And.intro | intro _)))
  all_goals (try (first | with_reducible refine wa_id ?_ | exact True.intro | omega))
  refine V_ret (evs ?_)
  first | rfl | exact ⟨rfl, rfl⟩

/-- imageeditor/imageeditorlaw20.covers -/
theorem covers_fn (ps : List (List Pt)) (rule : Int) (v : List Int) : Eng.Fn Try.prog 31 [.sl 1 (ps.map plyC), .i rule, .sl 1 (v.map iC)] (.dat (.b (coversB ps rule v))) := by
  refine Eng.Fn.by (fn := Try.f31) 28 [.tmp 6] Try.func31 rfl Try.ntmps31 rfl (by simp) fun w0 => ?_
  refine WA_seq (x := (fcd Try.f31 [0])) (y := (fcd Try.f31 [1])) ?_
  refine V_regionX Γ Δ [15] [0, 1, 2, 6, 7, 8] (evs ?_)
  all_goals (try with_reducible (repeat' (first | apply And.intro | intro _)))
  all_goals (try (first | with_reducible refine wa_id ?_ | exact True.intro | omega))
  refine WA_seq (x := (fcd Try.f31 [1, 0])) (y := (fcd Try.f31 [1, 1])) ?_
  refine V_regionX Γ Δ [15] [0, 1, 2, 6, 7, 8] (evs ?_)
  all_goals (try with_reducible (repeat' (first | apply And.intro | intro _)))
  all_goals (try (first | with_reducible refine wa_id ?_ | exact True.intro | exact cmask_fn _ _ ⟨_, _, _, _⟩ | omega))
  refine WA_seq (x := (fcd Try.f31 [1, 1, 0])) (y := (fcd Try.f31 [1, 1, 1])) ?_
  refine V_regionX Γ Δ [15] [0, 1, 2, 6, 7, 8] (evs ?_)
  all_goals (try with_reducible (repeat' (first | apply And.intro | intro _)))
  all_goals (try (first | with_reducible refine wa_id ?_ | exact True.intro | exact sameM_fn ⟨_, _, _⟩ ⟨_, _, _⟩ | omega))
  refine V_ret (evs ?_)
  first | rfl

end Go.S20

