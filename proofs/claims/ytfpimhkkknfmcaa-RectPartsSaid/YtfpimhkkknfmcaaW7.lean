import Derived.Test.YtfpimhkkknfmcaaW6
namespace Go.Rect
open Go.RowKit Go.Proofs Go.Eng
/-- imageeditor/imageeditorlaw02.RectTells -/
theorem l3_fn (r : Rc) (p : Pt) : Eng.Fn Try.prog 3 [rcD r, ptD p] (.dat (.b true)) := by
  refine Eng.Fn.by (fn := Try.f3) 36 [.tmp 4] Try.func3 rfl Try.ntmps3 rfl (by simp) fun w0 => ?_
  refine WA_seq (x := (fcd Try.f3 [0])) (y := (fcd Try.f3 [1])) ?_
  refine V_region Γ [] [0, 1, 2, 3, 4] (evs ?_)
  all_goals (try with_reducible (repeat' (first | apply And.intro | intro _)))
  all_goals (try (first | exact True.intro | omega))
  refine WA_seq (x := (fcd Try.f3 [1, 0])) (y := (fcd Try.f3 [1, 1])) ?_
  refine V_draw Γ [] [0, 1, 2, 3, 4] mixed (by kernel_rfl) (evs ?_)
  all_goals (try with_reducible (repeat' (first | apply And.intro | intro _)))
  all_goals (try (first | exact True.intro | omega | exact awake_fn | exact valid_fn _ | exact rvalid_fn _ | exact empty_fn _ | exact rempty_fn _ | exact has_fn _ _ | exact rhas_fn _ _ | exact area_fn _ | exact rarea_fn _))
  refine V_ret (evs ?_)
  trivial

/-- imageeditor/imageeditorlaw02.RectPairs -/
theorem l4_fn (a b : Rc) : Eng.Fn Try.prog 4 [rcD a, rcD b] (.dat (.b true)) := by
  refine Eng.Fn.by (fn := Try.f4) 33 [.tmp 4] Try.func4 rfl Try.ntmps4 rfl (by simp) fun w0 => ?_
  refine WA_seq (x := (fcd Try.f4 [0])) (y := (fcd Try.f4 [1])) ?_
  refine V_region Γ [] [0, 1, 2, 3, 4] (evs ?_)
  all_goals (try with_reducible (repeat' (first | apply And.intro | intro _)))
  all_goals (try (first | exact True.intro | omega))
  refine WA_seq (x := (fcd Try.f4 [1, 0])) (y := (fcd Try.f4 [1, 1])) ?_
  refine V_draw Γ [] [0, 1, 2, 3, 4] mixed (by kernel_rfl) (evs ?_)
  all_goals (try with_reducible (repeat' (first | apply And.intro | intro _)))
  all_goals (try (first | exact True.intro | omega | exact awake_fn | exact within_fn _ _ | exact rwithin_fn _ _ | exact meet_fn _ _ | exact rmeet_fn _ _ | exact join_fn _ _ | exact rjoin_fn _ _))
  refine V_ret (evs ?_)
  trivial

/-- imageeditor/imageeditorlaw02.RectMoves -/
theorem l5_fn (r : Rc) (d : Pt) (n : Int) : Eng.Fn Try.prog 5 [rcD r, ptD d, .i n] (.dat (.b true)) := by
  refine Eng.Fn.by (fn := Try.f5) 26 [.tmp 6] Try.func5 rfl Try.ntmps5 rfl (by simp) fun w0 => ?_
  refine WA_seq (x := (fcd Try.f5 [0])) (y := (fcd Try.f5 [1])) ?_
  refine V_region Γ [] [0, 1, 2, 3, 4, 6] (evs ?_)
  all_goals (try with_reducible (repeat' (first | apply And.intro | intro _)))
  all_goals (try (first | exact True.intro | omega))
  refine WA_seq (x := (fcd Try.f5 [1, 0])) (y := (fcd Try.f5 [1, 1])) ?_
  refine V_draw Γ [] [0, 1, 2, 3, 4, 6] mixed (by kernel_rfl) (evs ?_)
  all_goals (try with_reducible (repeat' (first | apply And.intro | intro _)))
  all_goals (try (first | exact True.intro | omega | exact awake_fn | exact move_fn _ _ | exact rmove_fn _ _ | exact grow_fn _ _ | exact rgrow_fn _ _))
  refine V_ret (evs ?_)
  trivial

/-- imageeditor/imageeditorlaw02.RectParts -/
theorem l6_fn (a b : Rc) : Eng.Fn Try.prog 6 [rcD a, rcD b] (.dat (.b true)) := by
  refine Eng.Fn.by (fn := Try.f6) 15 [.tmp 4] Try.func6 rfl Try.ntmps6 rfl (by simp) fun w0 => ?_
  refine WA_seq (x := (fcd Try.f6 [0])) (y := (fcd Try.f6 [1])) ?_
  refine V_region Γ [] [0, 1, 2, 3, 4] (evs ?_)
  all_goals (try with_reducible (repeat' (first | apply And.intro | intro _)))
  all_goals (try (first | exact True.intro | omega))
  refine WA_seq (x := (fcd Try.f6 [1, 0])) (y := (fcd Try.f6 [1, 1])) ?_
  refine V_draw Γ [] [0, 1, 2, 3, 4] mixed (by kernel_rfl) (evs ?_)
  all_goals (try with_reducible (repeat' (first | apply And.intro | intro _)))
  all_goals (try (first | exact True.intro | omega | exact awake_fn | exact minus_fn _ _ | exact rminus_fn _ _ | exact sameR_fn _ _))
  refine V_ret (evs ?_)
  simp only [sameL, decide_true]

/-- imageeditor/imageeditorlaw02.RectTiles -/
theorem l7_fn (r : Rc) (t : Pt) : Eng.Fn Try.prog 7 [rcD r, ptD t] (.dat (.b true)) := by
  refine Eng.Fn.by (fn := Try.f7) 20 [.tmp 4] Try.func7 rfl Try.ntmps7 rfl (by simp) fun w0 => ?_
  refine WA_seq (x := (fcd Try.f7 [0])) (y := (fcd Try.f7 [1])) ?_
  refine V_region Γ [] [0, 1, 2, 3, 4] (evs ?_)
  all_goals (try with_reducible (repeat' (first | apply And.intro | intro _)))
  all_goals (try (first | exact True.intro | omega))
  refine WA_seq (x := (fcd Try.f7 [1, 0])) (y := (fcd Try.f7 [1, 1])) ?_
  refine V_draw Γ [] [0, 1, 2, 3, 4] mixed (by kernel_rfl) (evs ?_)
  all_goals (try with_reducible (repeat' (first | apply And.intro | intro _)))
  all_goals (try (first | exact True.intro | omega | exact awake_fn | exact tileR_fn _ | exact rtileR_fn _ | exact tiles_fn _ | exact rtiles_fn _ | exact sameP_fn _ _))
  refine V_ret (evs ?_)
  simp only [sameL, decide_true]

end Go.Rect
