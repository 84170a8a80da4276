import Derived.Test.YtnbeigcjhpldmaaGreatB9
import Derived.Test.YtnbeigcjhpldmaaGreatB10
import Derived.Test.YtnbeigcjhpldmaaGreatB11
set_option linter.unusedSimpArgs false
set_option linter.unusedVariables false
set_option linter.unusedSimpArgs false
set_option linter.unusedVariables false
namespace Go.S03
open Go.RowKit Go.Proofs Go.Eng Go.Rect
theorem union_fn (a b : List Rc) : Eng.Fn Tryz.prog 26 [.sl 4 (a.map rcC), .sl 4 (b.map rcC)] (.own 34 4 ((canoF orB a b).map rcC)) := by
  refine Eng.Fn.by (fn := Tryz.f26) 8 [.tmp 4] Tryz.func26 rfl Tryz.ntmps26 rfl (by simp) fun w0 G0 => ?_
  refine WA_seq (x := (fcd Tryz.f26 [0])) (y := (fcd Tryz.f26 [1])) ?_
  refine V_regionX Γ Δ [] [0, 1, 4] (evs ?_)
  all_goals (try with_reducible (repeat' (first | apply And.intro | intro _)))
  all_goals (try (first | with_reducible refine wa_id ?_ | exact True.intro | omega | exact canoUnion_fn _ _))
  refine WA_seq (x := (fcd Tryz.f26 [1, 0])) (y := (fcd Tryz.f26 [1, 1])) ?_
  refine V_regionX Γ Δ [] [0, 1, 4] (evs ?_)
  all_goals (try with_reducible (repeat' (first | apply And.intro | intro _)))
  all_goals (try (first | with_reducible refine wa_id ?_ | exact True.intro | omega | exact canoUnion_fn _ _))
  refine V_ret (evs ?_)
  first | exact True.intro | rfl | exact ⟨rfl, rfl⟩

theorem common_fn (a b : List Rc) : Eng.Fn Tryz.prog 27 [.sl 4 (a.map rcC), .sl 4 (b.map rcC)] (.own 34 4 ((canoF andB a b).map rcC)) := by
  refine Eng.Fn.by (fn := Tryz.f27) 8 [.tmp 4] Tryz.func27 rfl Tryz.ntmps27 rfl (by simp) fun w0 G0 => ?_
  refine WA_seq (x := (fcd Tryz.f27 [0])) (y := (fcd Tryz.f27 [1])) ?_
  refine V_regionX Γ Δ [] [0, 1, 4] (evs ?_)
  all_goals (try with_reducible (repeat' (first | apply And.intro | intro _)))
  all_goals (try (first | with_reducible refine wa_id ?_ | exact True.intro | omega | exact canoCommon_fn _ _))
  refine WA_seq (x := (fcd Tryz.f27 [1, 0])) (y := (fcd Tryz.f27 [1, 1])) ?_
  refine V_regionX Γ Δ [] [0, 1, 4] (evs ?_)
  all_goals (try with_reducible (repeat' (first | apply And.intro | intro _)))
  all_goals (try (first | with_reducible refine wa_id ?_ | exact True.intro | omega | exact canoCommon_fn _ _))
  refine V_ret (evs ?_)
  first | exact True.intro | rfl | exact ⟨rfl, rfl⟩

theorem minus_fn (a b : List Rc) : Eng.Fn Tryz.prog 25 [.sl 4 (a.map rcC), .sl 4 (b.map rcC)] (.own 34 4 ((canoF notB a b).map rcC)) := by
  refine Eng.Fn.by (fn := Tryz.f25) 8 [.tmp 4] Tryz.func25 rfl Tryz.ntmps25 rfl (by simp) fun w0 G0 => ?_
  refine WA_seq (x := (fcd Tryz.f25 [0])) (y := (fcd Tryz.f25 [1])) ?_
  refine V_regionX Γ Δ [] [0, 1, 4] (evs ?_)
  all_goals (try with_reducible (repeat' (first | apply And.intro | intro _)))
  all_goals (try (first | with_reducible refine wa_id ?_ | exact True.intro | omega | exact canoMinus_fn _ _))
  refine WA_seq (x := (fcd Tryz.f25 [1, 0])) (y := (fcd Tryz.f25 [1, 1])) ?_
  refine V_regionX Γ Δ [] [0, 1, 4] (evs ?_)
  all_goals (try with_reducible (repeat' (first | apply And.intro | intro _)))
  all_goals (try (first | with_reducible refine wa_id ?_ | exact True.intro | omega | exact canoMinus_fn _ _))
  refine V_ret (evs ?_)
  first | exact True.intro | rfl | exact ⟨rfl, rfl⟩

theorem of3_fn (a : List Rc) : Eng.Fn Tryz.prog 21 [.sl 4 (a.map rcC)] (.own 34 4 ((canoF orB a []).map rcC)) := by
  refine Eng.Fn.by (fn := Tryz.f21) 5 [.tmp 2] Tryz.func21 rfl Tryz.ntmps21 rfl (by simp) fun w0 G0 => ?_
  refine WA_seq (x := (fcd Tryz.f21 [0])) (y := (fcd Tryz.f21 [1])) ?_
  refine V_regionX Γ Δ [] [0, 2] (evs ?_)
  all_goals (try with_reducible (repeat' (first | apply And.intro | intro _)))
  all_goals (try (first | with_reducible refine wa_id ?_ | exact True.intro | omega | exact Fn.nil1 4 (union_fn _ [])))
  refine WA_seq (x := (fcd Tryz.f21 [1, 0])) (y := (fcd Tryz.f21 [1, 1])) ?_
  refine V_regionX Γ Δ [] [0, 2] (evs ?_)
  all_goals (try with_reducible (repeat' (first | apply And.intro | intro _)))
  all_goals (try (first | with_reducible refine wa_id ?_ | exact True.intro | exact union_fn _ _ | omega | exact Fn.nil1 4 (union_fn _ [])))
  refine V_ret (evs ?_)
  first | exact True.intro | rfl

end Go.S03

