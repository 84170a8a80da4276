import Derived.Test.YtnbeigcjhpldmaaB9
import Derived.Test.YtnbeigcjhpldmaaB10
import Derived.Test.YtnbeigcjhpldmaaB11
set_option linter.unusedSimpArgs false
set_option linter.unusedVariables false
set_option linter.unusedSimpArgs false
set_option linter.unusedVariables false
namespace Go.S03
open Go.RowKit Go.Proofs Go.Eng Go.Rect
/-- imageeditor/region.Union -/
theorem union_fn (a b : List Rc) : Eng.Fn Try.prog 16 [.sl 4 (a.map rcC), .sl 4 (b.map rcC)] (.own 33 4 ((canoF orB a b).map rcC)) := by
  refine Eng.Fn.by (fn := Try.f16) 8 [.tmp 4] Try.func16 rfl Try.ntmps16 rfl (by simp) fun w0 G0 => ?_
  refine WA_seq (x := (fcd Try.f16 [0])) (y := (fcd Try.f16 [1])) ?_
  refine V_regionX Γ Δ [] [0, 1, 4] (evs ?_)
  all_goals (try with_reducible (repeat' (first | apply And.intro | intro _)))
  all_goals (try (first | with_reducible refine wa_id ?_ | exact True.intro | omega | exact canoUnion_fn _ _))
  refine WA_seq (x := (fcd Try.f16 [1, 0])) (y := (fcd Try.f16 [1, 1])) ?_
  refine V_regionX Γ Δ [] [0, 1, 4] (evs ?_)
  all_goals (try with_reducible (repeat' (first | apply And.intro | intro _)))
  all_goals (try (first | with_reducible refine wa_id ?_ | exact True.intro | omega | exact canoUnion_fn _ _))
  refine V_ret (evs ?_)
  first | exact True.intro | rfl | exact ⟨rfl, rfl⟩

/-- imageeditor/region.Common -/
theorem common_fn (a b : List Rc) : Eng.Fn Try.prog 18 [.sl 4 (a.map rcC), .sl 4 (b.map rcC)] (.own 33 4 ((canoF andB a b).map rcC)) := by
  refine Eng.Fn.by (fn := Try.f18) 8 [.tmp 4] Try.func18 rfl Try.ntmps18 rfl (by simp) fun w0 G0 => ?_
  refine WA_seq (x := (fcd Try.f18 [0])) (y := (fcd Try.f18 [1])) ?_
  refine V_regionX Γ Δ [] [0, 1, 4] (evs ?_)
  all_goals (try with_reducible (repeat' (first | apply And.intro | intro _)))
  all_goals (try (first | with_reducible refine wa_id ?_ | exact True.intro | omega | exact canoCommon_fn _ _))
  refine WA_seq (x := (fcd Try.f18 [1, 0])) (y := (fcd Try.f18 [1, 1])) ?_
  refine V_regionX Γ Δ [] [0, 1, 4] (evs ?_)
  all_goals (try with_reducible (repeat' (first | apply And.intro | intro _)))
  all_goals (try (first | with_reducible refine wa_id ?_ | exact True.intro | omega | exact canoCommon_fn _ _))
  refine V_ret (evs ?_)
  first | exact True.intro | rfl | exact ⟨rfl, rfl⟩

/-- imageeditor/region.Minus -/
theorem minus_fn (a b : List Rc) : Eng.Fn Try.prog 20 [.sl 4 (a.map rcC), .sl 4 (b.map rcC)] (.own 33 4 ((canoF notB a b).map rcC)) := by
  refine Eng.Fn.by (fn := Try.f20) 8 [.tmp 4] Try.func20 rfl Try.ntmps20 rfl (by simp) fun w0 G0 => ?_
  refine WA_seq (x := (fcd Try.f20 [0])) (y := (fcd Try.f20 [1])) ?_
  refine V_regionX Γ Δ [] [0, 1, 4] (evs ?_)
  all_goals (try with_reducible (repeat' (first | apply And.intro | intro _)))
  all_goals (try (first | with_reducible refine wa_id ?_ | exact True.intro | omega | exact canoMinus_fn _ _))
  refine WA_seq (x := (fcd Try.f20 [1, 0])) (y := (fcd Try.f20 [1, 1])) ?_
  refine V_regionX Γ Δ [] [0, 1, 4] (evs ?_)
  all_goals (try with_reducible (repeat' (first | apply And.intro | intro _)))
  all_goals (try (first | with_reducible refine wa_id ?_ | exact True.intro | omega | exact canoMinus_fn _ _))
  refine V_ret (evs ?_)
  first | exact True.intro | rfl | exact ⟨rfl, rfl⟩

/-- imageeditor/region.Of -/
theorem of3_fn (a : List Rc) : Eng.Fn Try.prog 10 [.sl 4 (a.map rcC)] (.own 33 4 ((canoF orB a []).map rcC)) := by
  refine Eng.Fn.by (fn := Try.f10) 5 [.tmp 2] Try.func10 rfl Try.ntmps10 rfl (by simp) fun w0 G0 => ?_
  refine WA_seq (x := (fcd Try.f10 [0])) (y := (fcd Try.f10 [1])) ?_
  refine V_regionX Γ Δ [] [0, 2] (evs ?_)
  all_goals (try with_reducible (repeat' (first | apply And.intro | intro _)))
  all_goals (try (first | with_reducible refine wa_id ?_ | exact True.intro | omega | exact Fn.nil1 4 (union_fn _ [])))
  refine WA_seq (x := (fcd Try.f10 [1, 0])) (y := (fcd Try.f10 [1, 1])) ?_
  refine V_regionX Γ Δ [] [0, 2] (evs ?_)
  all_goals (try with_reducible (repeat' (first | apply And.intro | intro _)))
  all_goals (try (first | with_reducible refine wa_id ?_ | exact True.intro | exact union_fn _ _ | omega | exact Fn.nil1 4 (union_fn _ [])))
  refine V_ret (evs ?_)
  first | exact True.intro | rfl

end Go.S03

