import Derived.Test.YtdillkdhpalgcaaGreatH3
import Derived.Test.YtdillkdhpalgcaaGreatB8
set_option linter.unusedSimpArgs false
set_option linter.unusedVariables false
set_option linter.unusedSimpArgs false
set_option linter.unusedVariables false
namespace Go.S16
open Go.RowKit Go.Proofs Go.Eng Go.Rect
set_option maxHeartbeats 8000000 in
theorem l_wholes (i : Im) (k : Int) (ps : List Int) : Eng.Fn Tryz.prog 4 [imD i, .i k, .sl 1 (ps.map iC)] (.dat (.b true)) := by
  refine Eng.Fn.by (fn := Tryz.f4) 40 [.tmp 6] Tryz.func4 rfl Tryz.ntmps4 rfl (by simp) fun w0 G0 => ?_
  refine WA_seq (x := (fcd Tryz.f4 [0])) (y := (fcd Tryz.f4 [1])) ?_
  refine V_regionX Γ Δ [19, 26] [0, 1, 2, 3, 6, 7, 8, 9, 10, 14] (evs ?_)
  all_goals (try with_reducible (repeat' (first | apply And.intro | intro _)))
  all_goals (try (first | with_reducible refine wa_id ?_ | exact True.intro | omega | exact whole_fn i k ps | exact rwhole_fn i k ps | exact sameI_fn _ _))
  refine WA_seq (x := (fcd Tryz.f4 [1, 0])) (y := (fcd Tryz.f4 [1, 1])) ?_
  refine WA_seq (x := (fcd Tryz.f4 [1, 0, 0])) (y := (fcd Tryz.f4 [1, 0, 1])) ?_
  refine V_regionX Γ Δ [19, 26] [0, 1, 2, 3, 6, 7, 8, 9, 10, 14] (evs ?_)
  all_goals (try with_reducible (repeat' (first | apply And.intro | intro _)))
  all_goals (try (first | with_reducible refine wa_id ?_ | exact True.intro | omega | exact whole_fn i k ps | exact rwhole_fn i k ps | exact sameI_fn _ _))
  refine V_cond (evs ?_)
  refine ⟨fun hc => ?_, fun hc => ?_⟩
  · refine WA_seq (x := (fcd Tryz.f4 [1, 0, 1, 0, 0])) (y := (fcd Tryz.f4 [1, 0, 1, 0, 1])) ?_
    refine V_regionX Γ Δ [19, 26] [0, 1, 2, 3, 6, 7, 8, 9, 10, 14] (evs ?_)
    all_goals (try with_reducible (repeat' (first | apply And.intro | intro _)))
    all_goals (try (first | with_reducible refine wa_id ?_ | exact True.intro | omega | exact whole_fn i k ps | exact rwhole_fn i k ps | exact sameI_fn _ _))
    refine V_ret (evs ?_)
    first | rfl | exact decide_eq_true rfl | (simp [sameI]; done)
  · refine WA_skip ?_
    refine WA_seq (x := (fcd Tryz.f4 [1, 1, 0])) (y := (fcd Tryz.f4 [1, 1, 1])) ?_
    refine V_regionX Γ Δ [19, 26] [0, 1, 2, 3, 6, 7, 8, 9, 10, 14] (evs ?_)
    all_goals (try with_reducible (repeat' (first | apply And.intro | intro _)))
    all_goals (try (first | with_reducible refine wa_id ?_ | exact True.intro | exact whole_fn ⟨_, _, _⟩ _ _ | omega | exact whole_fn i k ps | exact rwhole_fn i k ps | exact sameI_fn _ _))
    refine WA_seq (x := (fcd Tryz.f4 [1, 1, 1, 0])) (y := (fcd Tryz.f4 [1, 1, 1, 1])) ?_
    refine V_regionX Γ Δ [19, 26] [0, 1, 2, 3, 6, 7, 8, 9, 10, 14] (evs ?_)
    all_goals (try with_reducible (repeat' (first | apply And.intro | intro _)))
    all_goals (try (first | with_reducible refine wa_id ?_ | exact True.intro | exact rwhole_fn ⟨_, _, _⟩ _ _ | omega | exact whole_fn i k ps | exact rwhole_fn i k ps | exact sameI_fn _ _))
    refine WA_seq (x := (fcd Tryz.f4 [1, 1, 1, 1, 0])) (y := (fcd Tryz.f4 [1, 1, 1, 1, 1])) ?_
    refine V_regionX Γ Δ [19, 26] [0, 1, 2, 3, 6, 7, 8, 9, 10, 14] (evs ?_)
    all_goals (try with_reducible (repeat' (first | apply And.intro | intro _)))
    all_goals (try (first | with_reducible refine wa_id ?_ | exact True.intro | exact sameI_fn ⟨_, _, _⟩ ⟨_, _, _⟩ | exact example_fn | omega | exact whole_fn i k ps | exact rwhole_fn i k ps | exact sameI_fn _ _))
    refine V_ret (evs ?_)
    first | rfl | exact decide_eq_true rfl | (simp [sameI]; done)

end Go.S16

