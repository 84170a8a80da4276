import Derived.Test.YtdillkdhpalgcaaGreatH2
import Derived.Test.YtdillkdhpalgcaaGreatB8
set_option linter.unusedSimpArgs false
set_option linter.unusedVariables false
set_option linter.unusedSimpArgs false
set_option linter.unusedVariables false
namespace Go.S16
open Go.RowKit Go.Proofs Go.Eng Go.Rect
set_option maxHeartbeats 8000000 in
set_option maxRecDepth 100000 in
theorem l_applies (i : Im) (o : Pt) (k : Int) (ps : List Int) (out bd : Rc) : Eng.Fn Tryz.prog 3 [.agg [.i i.w, .i i.h, .sl 4 (i.p.map pxC), .i o.x, .i o.y, .i k, .sl 1 (ps.map iC), .i out.x, .i out.y, .i out.w, .i out.h, .i bd.x, .i bd.y, .i bd.w, .i bd.h]] (.dat (.b true)) := by
  refine Eng.Fn.by (fn := Tryz.f3) 63 [.tmp 2] Tryz.func3 rfl Tryz.ntmps3 rfl (by simp) fun w0 G0 => ?_
  refine WA_seq (x := (fcd Tryz.f3 [0])) (y := (fcd Tryz.f3 [1])) ?_
  refine V_regionX Γ Δ [29, 49] [0, 1, 2, 3, 4, 5, 6, 11] (evs ?_)
  all_goals (try with_reducible (repeat' (first | apply And.intro | intro _)))
  all_goals (try (first | with_reducible refine wa_id ?_ | exact True.intro | omega | exact apply_all i o bd k ps out | exact rapply_fn i o bd k ps out | exact sameI_fn _ _))
  refine WA_seq (x := (fcd Tryz.f3 [1, 0])) (y := (fcd Tryz.f3 [1, 1])) ?_
  refine WA_seq (x := (fcd Tryz.f3 [1, 0, 0])) (y := (fcd Tryz.f3 [1, 0, 1])) ?_
  refine V_regionX Γ Δ [29, 49] [0, 1, 2, 3, 4, 5, 6, 11] (evs ?_)
  all_goals (try with_reducible (repeat' (first | apply And.intro | intro _)))
  all_goals (try (first | with_reducible refine wa_id ?_ | exact True.intro | omega | exact apply_all i o bd k ps out | exact rapply_fn i o bd k ps out | exact sameI_fn _ _))
  refine V_cond (evs ?_)
  refine ⟨fun hc => ?_, fun hc => ?_⟩
  · refine WA_seq (x := (fcd Tryz.f3 [1, 0, 1, 0, 0])) (y := (fcd Tryz.f3 [1, 0, 1, 0, 1])) ?_
    refine V_regionX Γ Δ [29, 49] [0, 1, 2, 3, 4, 5, 6, 11] (evs ?_)
    all_goals (try with_reducible (repeat' (first | apply And.intro | intro _)))
    all_goals (try (first | with_reducible refine wa_id ?_ | exact True.intro | omega | exact apply_all i o bd k ps out | exact rapply_fn i o bd k ps out | exact sameI_fn _ _))
    refine V_ret (evs ?_)
    first | rfl | exact decide_eq_true rfl | (simp [sameI]; done)
  · refine WA_skip ?_
    refine WA_seq (x := (fcd Tryz.f3 [1, 1, 0])) (y := (fcd Tryz.f3 [1, 1, 1])) ?_
    refine V_regionX Γ Δ [29, 49] [0, 1, 2, 3, 4, 5, 6, 11] (evs ?_)
    all_goals (try with_reducible (repeat' (first | apply And.intro | intro _)))
    all_goals (try (first | with_reducible refine wa_id ?_ | exact True.intro | exact apply_all ⟨_, _, _⟩ ⟨_, _⟩ ⟨_, _, _, _⟩ _ _ ⟨_, _, _, _⟩ | omega | exact apply_all i o bd k ps out | exact rapply_fn i o bd k ps out | exact sameI_fn _ _))
    refine WA_seq (x := (fcd Tryz.f3 [1, 1, 1, 0])) (y := (fcd Tryz.f3 [1, 1, 1, 1])) ?_
    refine V_regionX Γ Δ [29, 49] [0, 1, 2, 3, 4, 5, 6, 11] (evs ?_)
    all_goals (try with_reducible (repeat' (first | apply And.intro | intro _)))
    all_goals (try (first | with_reducible refine wa_id ?_ | exact True.intro | exact rapply_fn ⟨_, _, _⟩ ⟨_, _⟩ ⟨_, _, _, _⟩ _ _ ⟨_, _, _, _⟩ | omega | exact apply_all i o bd k ps out | exact rapply_fn i o bd k ps out | exact sameI_fn _ _))
    refine WA_seq (x := (fcd Tryz.f3 [1, 1, 1, 1, 0])) (y := (fcd Tryz.f3 [1, 1, 1, 1, 1])) ?_
    refine V_regionX Γ Δ [29, 49] [0, 1, 2, 3, 4, 5, 6, 11] (evs ?_)
    all_goals (try with_reducible (repeat' (first | apply And.intro | intro _)))
    all_goals (try (first | with_reducible refine wa_id ?_ | exact True.intro | exact sameI_fn ⟨_, _, _⟩ ⟨_, _, _⟩ | exact example_fn | omega | exact apply_all i o bd k ps out | exact rapply_fn i o bd k ps out | exact sameI_fn _ _))
    refine V_ret (evs ?_)
    first | rfl | exact decide_eq_true rfl | (simp [sameI]; done)

end Go.S16

