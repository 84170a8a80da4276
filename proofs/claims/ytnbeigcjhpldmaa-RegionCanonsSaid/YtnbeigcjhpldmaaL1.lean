import Derived.Test.YtnbeigcjhpldmaaL0
import Derived.Test.YtnbeigcjhpldmaaR7
import Derived.Test.YtnbeigcjhpldmaaR8
set_option linter.unusedSimpArgs false
set_option linter.unusedVariables false
set_option linter.unusedSimpArgs false
set_option linter.unusedVariables false
namespace Go.S03
open Go.RowKit Go.Proofs Go.Eng Go.Rect
/-- imageeditor/imageeditorlaw03.RegionCanons -/
theorem canons_fn (a : List Rc) : Eng.Fn Try.prog 3 [.sl 4 (a.map rcC)] (.dat (.b true)) := by
  refine Eng.Fn.by (fn := Try.f3) 37 [.tmp 2] Try.func3 rfl Try.ntmps3 rfl (by simp) fun w0 G0 => ?_
  refine WA_seq (x := (fcd Try.f3 [0])) (y := (fcd Try.f3 [1])) ?_
  refine V_regionX Γ Δ [] [0, 2, 3] (evs ?_)
  all_goals (try with_reducible (repeat' (first | apply And.intro | intro _)))
  all_goals (try (first | with_reducible refine wa_id ?_ | exact True.intro | omega | (simp [sameL_self, cano_right0]; done) | exact (fun h => h.elim)))
  refine WA_seq (x := (fcd Try.f3 [1, 0])) (y := (fcd Try.f3 [1, 1])) ?_
  refine V_regionX Γ Δ [] [0, 2, 3] (evs ?_)
  all_goals (try with_reducible (repeat' (first | apply And.intro | intro _)))
  all_goals (try (first | with_reducible refine wa_id ?_ | exact True.intro | exact of3_fn _ | omega | (simp [sameL_self, cano_right0]; done) | exact (fun h => h.elim)))
  refine WA_seq (x := (fcd Try.f3 [1, 1, 0])) (y := (fcd Try.f3 [1, 1, 1])) ?_
  refine V_regionX Γ Δ [] [0, 2, 3] (evs ?_)
  all_goals (try with_reducible (repeat' (first | apply And.intro | intro _)))
  all_goals (try (first | with_reducible refine wa_id ?_ | exact True.intro | exact rof_fn _ | exact lalike_fn _ _ | exact right_fn _ | exact rright_fn _ | exact awake_fn | omega | (simp [sameL_self, cano_right0]; done) | exact (fun h => h.elim)))
  refine V_ret (evs ?_)
  first | exact True.intro | rfl | exact canons_law a

end Go.S03

