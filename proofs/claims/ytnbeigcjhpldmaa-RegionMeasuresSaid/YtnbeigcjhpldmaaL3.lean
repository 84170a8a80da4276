import Derived.Test.YtnbeigcjhpldmaaL0
import Derived.Test.YtnbeigcjhpldmaaR9
import Derived.Test.YtnbeigcjhpldmaaR10
import Derived.Test.YtnbeigcjhpldmaaR11
set_option linter.unusedSimpArgs false
set_option linter.unusedVariables false
set_option linter.unusedSimpArgs false
set_option linter.unusedVariables false
namespace Go.S03
open Go.RowKit Go.Proofs Go.Eng Go.Rect
/-- imageeditor/imageeditorlaw03.RegionMeasures -/
theorem measures_fn (a : List Rc) (p : Pt) : Eng.Fn Try.prog 5 [.sl 4 (a.map rcC), ptD p] (.dat (.b true)) := by
  refine Eng.Fn.by (fn := Try.f5) 29 [.tmp 4] Try.func5 rfl Try.ntmps5 rfl (by simp) fun w0 G0 => ?_
  refine WA_seq (x := (fcd Try.f5 [0])) (y := (fcd Try.f5 [1])) ?_
  refine V_regionX Γ Δ [] [0, 1, 3, 4] (evs ?_)
  all_goals (try with_reducible (repeat' (first | apply And.intro | intro _)))
  all_goals (try (first | with_reducible refine wa_id ?_ | exact True.intro | omega | exact has3_fn _ ⟨_, _⟩ | exact rhas_fn _ ⟨_, _⟩))
  refine WA_seq (x := (fcd Try.f5 [1, 0])) (y := (fcd Try.f5 [1, 1])) ?_
  refine V_draw Γ [] [0, 1, 3, 4] mixed (by kernel_rfl) (evs ?_)
  all_goals (try with_reducible (repeat' (first | apply And.intro | intro _)))
  all_goals (try (first | with_reducible refine wa_id ?_ | exact True.intro | exact has3_fn _ ⟨_, _⟩ | exact rhas_fn _ ⟨_, _⟩ | exact area3_fn _ | exact rarea_fn _ | exact box3_fn _ | exact rbox_fn _ | exact awake_fn | omega | exact has3_fn _ ⟨_, _⟩ | exact rhas_fn _ ⟨_, _⟩))
  refine V_ret (evs ?_)
  first | exact True.intro | rfl | (simp [sameL_self]; done)

end Go.S03

