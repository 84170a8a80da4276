import Derived.Test.YtnbeigcjhpldmaaR5
set_option linter.unusedSimpArgs false
set_option linter.unusedVariables false
set_option linter.unusedSimpArgs false
set_option linter.unusedVariables false
namespace Go.S03
open Go.RowKit Go.Proofs Go.Eng Go.Rect
/-- imageeditor/imageeditorref03.Of -/
theorem rof_fn (a : List Rc) : Eng.Fn Try.prog 12 [.sl 4 (a.map rcC)] (.own 33 4 ((canoF orB a []).map rcC)) := by
  refine Eng.Fn.by (fn := Try.f12) 6 [.tmp 2] Try.func12 rfl Try.ntmps12 rfl (by simp) fun w0 G0 => ?_
  refine WA_seq (x := (fcd Try.f12 [0])) (y := (fcd Try.f12 [1])) ?_
  refine V_regionX Γ Δ [] [0, 2] (evs ?_)
  all_goals (try with_reducible (repeat' (first | apply And.intro | intro _)))
  all_goals (try (first | with_reducible refine wa_id ?_ | exact True.intro | omega | exact part_fn _ | exact Fn.nil1 4 (build_fn _ [] _ (els_wd _) (fun r h => by cases h) (els_len _) (by simp))))
  refine WA_seq (x := (fcd Try.f12 [1, 0])) (y := (fcd Try.f12 [1, 1])) ?_
  refine V_regionX Γ Δ [] [0, 2] (evs ?_)
  all_goals (try with_reducible (repeat' (first | apply And.intro | intro _)))
  all_goals (try (first | with_reducible refine wa_id ?_ | exact True.intro | exact part_fn _ | exact build_fn _ _ _ (by assumption) (by assumption) (by assumption) (by assumption) | omega | exact part_fn _ | exact Fn.nil1 4 (build_fn _ [] _ (els_wd _) (fun r h => by cases h) (els_len _) (by simp))))
  refine V_ret (evs ?_)
  first | exact True.intro | rfl | (rw [bld_of]; done)

/-- imageeditor/imageeditorref03.Union -/
theorem runion_fn (a b : List Rc) : Eng.Fn Try.prog 17 [.sl 4 (a.map rcC), .sl 4 (b.map rcC)] (.own 33 4 ((canoF orB a b).map rcC)) := by
  refine Eng.Fn.by (fn := Try.f17) 10 [.tmp 4] Try.func17 rfl Try.ntmps17 rfl (by simp) fun w0 G0 => ?_
  refine WA_seq (x := (fcd Try.f17 [0])) (y := (fcd Try.f17 [1])) ?_
  refine V_regionX Γ Δ [] [0, 1, 4] (evs ?_)
  all_goals (try with_reducible (repeat' (first | apply And.intro | intro _)))
  all_goals (try (first | with_reducible refine wa_id ?_ | exact True.intro | omega | exact part_fn _ | exact build_fn _ _ _ (els_wd _) (els_wd _) (els_len _) (els_len _)))
  refine WA_seq (x := (fcd Try.f17 [1, 0])) (y := (fcd Try.f17 [1, 1])) ?_
  refine V_regionX Γ Δ [] [0, 1, 4] (evs ?_)
  all_goals (try with_reducible (repeat' (first | apply And.intro | intro _)))
  all_goals (try (first | with_reducible refine wa_id ?_ | exact True.intro | exact part_fn _ | exact build_fn _ _ _ (by assumption) (by assumption) (by assumption) (by assumption) | omega | exact part_fn _ | exact build_fn _ _ _ (els_wd _) (els_wd _) (els_len _) (els_len _)))
  refine V_ret (evs ?_)
  first | exact True.intro | rfl | (rw [bld_or]; done)

/-- imageeditor/imageeditorref03.Common -/
theorem rcommon_fn (a b : List Rc) : Eng.Fn Try.prog 19 [.sl 4 (a.map rcC), .sl 4 (b.map rcC)] (.own 33 4 ((canoF andB a b).map rcC)) := by
  refine Eng.Fn.by (fn := Try.f19) 10 [.tmp 4] Try.func19 rfl Try.ntmps19 rfl (by simp) fun w0 G0 => ?_
  refine WA_seq (x := (fcd Try.f19 [0])) (y := (fcd Try.f19 [1])) ?_
  refine V_regionX Γ Δ [] [0, 1, 4] (evs ?_)
  all_goals (try with_reducible (repeat' (first | apply And.intro | intro _)))
  all_goals (try (first | with_reducible refine wa_id ?_ | exact True.intro | omega | exact part_fn _ | exact build_fn _ _ _ (els_wd _) (els_wd _) (els_len _) (els_len _)))
  refine WA_seq (x := (fcd Try.f19 [1, 0])) (y := (fcd Try.f19 [1, 1])) ?_
  refine V_regionX Γ Δ [] [0, 1, 4] (evs ?_)
  all_goals (try with_reducible (repeat' (first | apply And.intro | intro _)))
  all_goals (try (first | with_reducible refine wa_id ?_ | exact True.intro | exact part_fn _ | exact build_fn _ _ _ (by assumption) (by assumption) (by assumption) (by assumption) | omega | exact part_fn _ | exact build_fn _ _ _ (els_wd _) (els_wd _) (els_len _) (els_len _)))
  refine V_ret (evs ?_)
  first | exact True.intro | rfl | (rw [bld_and]; done)

/-- imageeditor/imageeditorref03.Minus -/
theorem rminus_fn (a b : List Rc) : Eng.Fn Try.prog 21 [.sl 4 (a.map rcC), .sl 4 (b.map rcC)] (.own 33 4 ((canoF notB a b).map rcC)) := by
  refine Eng.Fn.by (fn := Try.f21) 10 [.tmp 4] Try.func21 rfl Try.ntmps21 rfl (by simp) fun w0 G0 => ?_
  refine WA_seq (x := (fcd Try.f21 [0])) (y := (fcd Try.f21 [1])) ?_
  refine V_regionX Γ Δ [] [0, 1, 4] (evs ?_)
  all_goals (try with_reducible (repeat' (first | apply And.intro | intro _)))
  all_goals (try (first | with_reducible refine wa_id ?_ | exact True.intro | omega | exact part_fn _ | exact build_fn _ _ _ (els_wd _) (els_wd _) (els_len _) (els_len _)))
  refine WA_seq (x := (fcd Try.f21 [1, 0])) (y := (fcd Try.f21 [1, 1])) ?_
  refine V_regionX Γ Δ [] [0, 1, 4] (evs ?_)
  all_goals (try with_reducible (repeat' (first | apply And.intro | intro _)))
  all_goals (try (first | with_reducible refine wa_id ?_ | exact True.intro | exact part_fn _ | exact build_fn _ _ _ (by assumption) (by assumption) (by assumption) (by assumption) | omega | exact part_fn _ | exact build_fn _ _ _ (els_wd _) (els_wd _) (els_len _) (els_len _)))
  refine V_ret (evs ?_)
  first | exact True.intro | rfl | (rw [bld_not]; done)

end Go.S03

