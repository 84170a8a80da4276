import Derived.Test.YtnbeigcjhpldmaaR4
set_option linter.unusedSimpArgs false
set_option linter.unusedVariables false
set_option linter.unusedSimpArgs false
set_option linter.unusedVariables false
namespace Go.S03
open Go.RowKit Go.Proofs Go.Eng Go.Rect
/-- imageeditor/imageeditorref03.joined -/
theorem joined_fn (a b : List Rc) (ha : Wd a) (hb : Wd b) : Eng.Fn Try.prog 38 [.sl 4 (a.map rcC), .sl 4 (b.map rcC)] (.dat (.b (joinL a b))) := by
  refine Eng.Fn.by (fn := Try.f38) 34 [.tmp 4] Try.func38 rfl Try.ntmps38 rfl (by simp) fun w0 G0 => ?_
  refine WA_seq (x := (fcd Try.f38 [0])) (y := (fcd Try.f38 [1])) ?_
  refine V_regionX Γ Δ [] [0, 1, 4] (evs ?_)
  all_goals (try with_reducible (repeat' (first | apply And.intro | intro _)))
  all_goals (try (first | with_reducible refine wa_id ?_ | exact True.intro | omega | exact ralike_fn _ _))
  refine WA_seq (x := (fcd Try.f38 [1, 0])) (y := (fcd Try.f38 [1, 1])) ?_
  refine V_draw Γ [] [0, 1, 4] mixed (by kernel_rfl) (evs ?_)
  have q1 := wd_any ha 0
  have q2 := wd_any hb 0
  (try simp (maxSteps := 10000000) (disch := omega) only [w64, toNs, toNp1])
  all_goals (try with_reducible (repeat' (first | apply And.intro | intro _)))
  all_goals (try (first | with_reducible refine wa_id ?_ | exact True.intro | exact ralike_fn _ _ | omega | exact ralike_fn _ _))
  refine V_ret (evs ?_)
  first | exact True.intro | rfl

end Go.S03

