import Derived.Test.YtnbeigcjhpldmaaR1
set_option linter.unusedSimpArgs false
set_option linter.unusedVariables false
set_option linter.unusedSimpArgs false
set_option linter.unusedVariables false
namespace Go.S03
open Go.RowKit Go.Proofs Go.Eng Go.Rect
/-- imageeditor/imageeditorref03.Has -/
theorem rhas_fn (a : List Rc) (p : Pt) : Eng.Fn Try.prog 23 [.sl 4 (a.map rcC), ptD p] (.dat (.b (hasR a p))) := by
  refine Eng.Fn.by (fn := Try.f23) 30 [.tmp 4] Try.func23 rfl Try.ntmps23 rfl (by simp) fun w0 G0 => ?_
  refine WA_seq (x := (fcd Try.f23 [0])) (y := (fcd Try.f23 [1])) ?_
  refine V_regionX Γ Δ [] [0, 1, 3, 4, 22] (evs ?_)
  all_goals (try with_reducible (repeat' (first | apply And.intro | intro _)))
  all_goals (try (first | with_reducible refine wa_id ?_ | exact True.intro | omega | exact part_fn _ | exact holds_fn _ _ _ (els_wd _) (by first | omega | (simp at hc; omega)) (by first | omega | (simp at hc; omega))))
  refine WA_seq (x := (fcd Try.f23 [1, 0])) (y := (fcd Try.f23 [1, 1])) ?_
  refine WA_seq (x := (fcd Try.f23 [1, 0, 0])) (y := (fcd Try.f23 [1, 0, 1])) ?_
  refine V_regionX Γ Δ [] [0, 1, 3, 4, 22] (evs ?_)
  all_goals (try with_reducible (repeat' (first | apply And.intro | intro _)))
  all_goals (try (first | with_reducible refine wa_id ?_ | exact True.intro | omega | exact part_fn _ | exact holds_fn _ _ _ (els_wd _) (by first | omega | (simp at hc; omega)) (by first | omega | (simp at hc; omega))))
  refine V_cond (evs ?_)
  refine ⟨fun hc => ?_, fun hc => ?_⟩
  · refine WA_seq (x := (fcd Try.f23 [1, 0, 1, 0, 0])) (y := (fcd Try.f23 [1, 0, 1, 0, 1])) ?_
    refine V_regionX Γ Δ [] [0, 1, 3, 4, 22] (evs ?_)
    all_goals (try with_reducible (repeat' (first | apply And.intro | intro _)))
    all_goals (try (first | with_reducible refine wa_id ?_ | exact True.intro | omega | exact part_fn _ | exact holds_fn _ _ _ (els_wd _) (by first | omega | (simp at hc; omega)) (by first | omega | (simp at hc; omega))))
    refine V_ret (evs ?_)
    first | exact True.intro | rfl | exact rhas_1 hc | exact rhas_2 _ _
  · refine WA_skip ?_
    refine WA_seq (x := (fcd Try.f23 [1, 1, 0])) (y := (fcd Try.f23 [1, 1, 1])) ?_
    refine V_draw Γ [] [0, 1, 3, 4, 22] mixed (by kernel_rfl) (evs ?_)
    all_goals (try with_reducible (repeat' (first | apply And.intro | intro _)))
    all_goals (try (first | with_reducible refine wa_id ?_ | exact True.intro | exact part_fn _ | exact holds_fn _ _ _ (by assumption) (by omega) (by omega) | omega | exact part_fn _ | exact holds_fn _ _ _ (els_wd _) (by first | omega | (simp at hc; omega)) (by first | omega | (simp at hc; omega))))
    refine V_ret (evs ?_)
    first | exact True.intro | rfl | exact rhas_1 hc | exact rhas_2 _ _

end Go.S03

