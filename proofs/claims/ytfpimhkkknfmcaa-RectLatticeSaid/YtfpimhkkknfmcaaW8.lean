import Derived.Test.YtfpimhkkknfmcaaW6
import Derived.Test.YtfpimhkkknfmcaaRectB
namespace Go.Rect
open Go.RowKit Go.Proofs Go.Eng
/-- imageeditor/imageeditorlaw02.RectLattice -/
theorem l8_fn (a b c : Rc) : Eng.Fn Try.prog 8 [rcD a, rcD b, rcD c] (.dat (.b true)) := by
  refine Eng.Fn.by (fn := Try.f8) 70 [.tmp 6] Try.func8 rfl Try.ntmps8 rfl (by simp) fun w0 => ?_
  refine WA_seq (x := (fcd Try.f8 [0])) (y := (fcd Try.f8 [1])) ?_
  refine V_region Γ [] [0, 1, 2, 3, 4, 5, 6, 7, 31, 51] (evs ?_)
  all_goals (try with_reducible (repeat' (first | apply And.intro | intro _)))
  all_goals (try (first | exact True.intro | omega))
  refine WA_seq (x := (fcd Try.f8 [1, 0])) (y := (fcd Try.f8 [1, 1])) ?_
  refine WA_seq (x := (fcd Try.f8 [1, 0, 0])) (y := (fcd Try.f8 [1, 0, 1])) ?_
  refine V_draw Γ [] [0, 1, 2, 3, 4, 5, 6, 7, 31, 51] mixed (by kernel_rfl) (evs ?_)
  all_goals (try with_reducible (repeat' (first | apply And.intro | intro _)))
  all_goals (try (first | exact True.intro | omega | exact awake_fn | exact meet_fn _ _))
  refine V_cond (evs ?_)
  refine ⟨fun hc => ?_, fun hc => ?_⟩
  · refine WA_seq (x := (fcd Try.f8 [1, 0, 1, 0, 0])) (y := (fcd Try.f8 [1, 0, 1, 0, 1])) ?_
    refine V_region Γ [] [0, 1, 2, 3, 4, 5, 6, 7, 31, 51] (evs ?_)
    all_goals (try with_reducible (repeat' (first | apply And.intro | intro _)))
    all_goals (try (first | exact True.intro | omega))
    refine V_ret (evs ?_)
    first | exact lt1 hc | exact lt2 hc | exact lt3 a b
  · refine WA_skip ?_
    refine WA_seq (x := (fcd Try.f8 [1, 1, 0])) (y := (fcd Try.f8 [1, 1, 1])) ?_
    refine V_region Γ [] [0, 1, 2, 3, 4, 5, 6, 7, 31, 51] (evs ?_)
    all_goals (try with_reducible (repeat' (first | apply And.intro | intro _)))
    all_goals (try (first | exact True.intro | omega | exact meet_fn _ _))
    refine WA_seq (x := (fcd Try.f8 [1, 1, 1, 0])) (y := (fcd Try.f8 [1, 1, 1, 1])) ?_
    refine WA_seq (x := (fcd Try.f8 [1, 1, 1, 0, 0])) (y := (fcd Try.f8 [1, 1, 1, 0, 1])) ?_
    refine V_draw Γ [] [0, 1, 2, 3, 4, 5, 6, 7, 31, 51] mixed (by kernel_rfl) (evs ?_)
    all_goals (try with_reducible (repeat' (first | apply And.intro | intro _)))
    all_goals (try (first | exact True.intro | omega | exact meet_fn _ _ | exact within_fn _ _))
    refine V_cond (evs ?_)
    refine ⟨fun hc => ?_, fun hc => ?_⟩
    · refine WA_seq (x := (fcd Try.f8 [1, 1, 1, 0, 1, 0, 0])) (y := (fcd Try.f8 [1, 1, 1, 0, 1, 0, 1])) ?_
      refine V_region Γ [] [0, 1, 2, 3, 4, 5, 6, 7, 31, 51] (evs ?_)
      all_goals (try with_reducible (repeat' (first | apply And.intro | intro _)))
      all_goals (try (first | exact True.intro | omega))
      refine V_ret (evs ?_)
      first | exact lt1 hc | exact lt2 hc | exact lt3 a b
    · refine WA_skip ?_
      refine WA_seq (x := (fcd Try.f8 [1, 1, 1, 1, 0])) (y := (fcd Try.f8 [1, 1, 1, 1, 1])) ?_
      refine V_draw Γ [] [0, 1, 2, 3, 4, 5, 6, 7, 31, 51] mixed (by kernel_rfl) (evs ?_)
      all_goals (try with_reducible (repeat' (first | apply And.intro | intro _)))
      all_goals (try (first | exact True.intro | omega | exact empty_fn _ | exact meet_fn _ _ | exact join_fn _ _))
      refine V_ret (evs ?_)
      first | exact lt1 hc | exact lt2 hc | exact lt3 a b

end Go.Rect
