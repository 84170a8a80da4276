import Derived.Test.YtnbeigcjhpldmaaL0
set_option linter.unusedSimpArgs false
set_option linter.unusedVariables false
set_option linter.unusedSimpArgs false
set_option linter.unusedVariables false
namespace Go.S03
open Go.RowKit Go.Proofs Go.Eng Go.Rect
set_option maxRecDepth 100000 in
/-- imageeditor/imageeditorlaw03.RegionPixels -/
theorem pixels_fn (a b : List Rc) (p : Pt) : Eng.Fn Try.prog 6 [.sl 4 (a.map rcC), .sl 4 (b.map rcC), ptD p] (.dat (.b true)) := by
  refine Eng.Fn.by (fn := Try.f6) 85 [.tmp 6] Try.func6 rfl Try.ntmps6 rfl (by simp) fun w0 G0 => ?_
  refine WA_seq (x := (fcd Try.f6 [0])) (y := (fcd Try.f6 [1])) ?_
  refine V_regionX Γ Δ [] [0, 1, 2, 5, 6, 7, 8, 9, 10, 11, 33] (evs ?_)
  all_goals (try with_reducible (repeat' (first | apply And.intro | intro _)))
  all_goals (try (first | with_reducible refine wa_id ?_ | exact True.intro | omega | exact has3_fn _ ⟨_, _⟩))
  refine WA_seq (x := (fcd Try.f6 [1, 0])) (y := (fcd Try.f6 [1, 1])) ?_
  refine V_regionX Γ Δ [] [0, 1, 2, 5, 6, 7, 8, 9, 10, 11, 33] (evs ?_)
  all_goals (try with_reducible (repeat' (first | apply And.intro | intro _)))
  all_goals (try (first | with_reducible refine wa_id ?_ | exact True.intro | exact union_fn _ _ | exact common_fn _ _ | exact minus_fn _ _ | omega | exact has3_fn _ ⟨_, _⟩))
  refine WA_seq (x := (fcd Try.f6 [1, 1, 0])) (y := (fcd Try.f6 [1, 1, 1])) ?_
  refine WA_seq (x := (fcd Try.f6 [1, 1, 0, 0])) (y := (fcd Try.f6 [1, 1, 0, 1])) ?_
  refine V_regionX Γ Δ [] [0, 1, 2, 5, 6, 7, 8, 9, 10, 11, 33] (evs ?_)
  all_goals (try with_reducible (repeat' (first | apply And.intro | intro _)))
  all_goals (try (first | with_reducible refine wa_id ?_ | exact True.intro | omega | exact has3_fn _ ⟨_, _⟩))
  refine V_cond (evs ?_)
  refine ⟨fun hc => ?_, fun hc => ?_⟩
  · refine WA_seq (x := (fcd Try.f6 [1, 1, 0, 1, 0, 0])) (y := (fcd Try.f6 [1, 1, 0, 1, 0, 1])) ?_
    refine V_regionX Γ Δ [] [0, 1, 2, 5, 6, 7, 8, 9, 10, 11, 33] (evs ?_)
    all_goals (try with_reducible (repeat' (first | apply And.intro | intro _)))
    all_goals (try (first | with_reducible refine wa_id ?_ | exact True.intro | exact awake_fn | omega | exact has3_fn _ ⟨_, _⟩))
    refine V_ret (evs ?_)
    first | exact True.intro | rfl | exact pixels_law hc
  · refine WA_skip ?_
    refine WA_seq (x := (fcd Try.f6 [1, 1, 1, 0])) (y := (fcd Try.f6 [1, 1, 1, 1])) ?_
    refine V_draw Γ [] [0, 1, 2, 5, 6, 7, 8, 9, 10, 11, 33] mixed (by kernel_rfl) (evs ?_)
    all_goals (try with_reducible (repeat' (first | apply And.intro | intro _)))
    all_goals (try (first | with_reducible refine wa_id ?_ | exact True.intro | exact has3_fn _ ⟨_, _⟩ | omega | exact has3_fn _ ⟨_, _⟩))
    refine WA_seq (x := (fcd Try.f6 [1, 1, 1, 1, 0])) (y := (fcd Try.f6 [1, 1, 1, 1, 1])) ?_
    refine V_regionX Γ Δ [] [0, 1, 2, 5, 6, 7, 8, 9, 10, 11, 33] (evs ?_)
    all_goals (try with_reducible (repeat' (first | apply And.intro | intro _)))
    all_goals (try (first | with_reducible refine wa_id ?_ | exact True.intro | exact right_fn _ | exact has3_fn _ ⟨_, _⟩ | exact awake_fn | omega | exact has3_fn _ ⟨_, _⟩))
    refine V_ret (evs ?_)
    first | exact True.intro | rfl | exact pixels_law hc

end Go.S03

