import Derived.Test.YtfpimhkkknfmcaaW6
import Derived.Test.YtfpimhkkknfmcaaRectB
namespace Go.Rect
open Go.RowKit Go.Proofs Go.Eng
/-- imageeditor/imageeditorlaw02.RectCovers -/
theorem l10_fn (r : Rc) : Eng.Fn Try.prog 10 [rcD r] (.dat (.b true)) := by
  refine Eng.Fn.by (fn := Try.f10) 53 [.tmp 2] Try.func10 rfl Try.ntmps10 rfl (by simp) fun w0 => ?_
  refine WA_seq (x := (fcd Try.f10 [0])) (y := (fcd Try.f10 [1])) ?_
  refine V_region Γ [9] [0, 1, 2, 3, 4, 6, 7, 16, 19, 32, 33, 34, 35, 44] (evs ?_)
  all_goals (try with_reducible (repeat' (first | apply And.intro | intro _)))
  all_goals (try (first | exact True.intro | omega))
  refine WA_seq (x := (fcd Try.f10 [1, 0])) (y := (fcd Try.f10 [1, 1])) ?_
  refine V_region Γ [9] [0, 1, 2, 3, 4, 6, 7, 16, 19, 32, 33, 34, 35, 44] (evs ?_)
  all_goals (try with_reducible (repeat' (first | apply And.intro | intro _)))
  all_goals (try (first | exact True.intro | omega | exact tiles_fn _))
  refine WA_seq (x := (fcd Try.f10 [1, 1, 0])) (y := (fcd Try.f10 [1, 1, 1])) ?_
  refine WA_seq (x := (fcd Try.f10 [1, 1, 0, 0])) (y := (fcd Try.f10 [1, 1, 0, 1])) ?_
  refine V_region Γ [9] [0, 1, 2, 3, 4, 6, 7, 16, 19, 32, 33, 34, 35, 44] (evs ?_)
  all_goals (try with_reducible (repeat' (first | apply And.intro | intro _)))
  all_goals (try (first | exact True.intro | omega | exact awake_fn))
  refine V_cond (evs ?_)
  refine ⟨fun hc => ?_, fun hc => ?_⟩
  · refine WA_seq (x := (fcd Try.f10 [1, 1, 0, 1, 0, 0])) (y := (fcd Try.f10 [1, 1, 0, 1, 0, 1])) ?_
    refine V_region Γ [9] [0, 1, 2, 3, 4, 6, 7, 16, 19, 32, 33, 34, 35, 44] (evs ?_)
    all_goals (try with_reducible (repeat' (first | apply And.intro | intro _)))
    all_goals (try (first | exact True.intro | omega))
    refine V_ret (evs ?_)
    first | exact cv1 hc | exact cv2 hc | exact cv3 ‹_› hc | exact cv4 hI ‹¬ _› hc
  · refine WA_skip ?_
    refine WA_seq (x := (fcd Try.f10 [1, 1, 1, 0])) (y := (fcd Try.f10 [1, 1, 1, 1])) ?_
    refine WA_seq (x := (fcd Try.f10 [1, 1, 1, 0, 0])) (y := (fcd Try.f10 [1, 1, 1, 0, 1])) ?_
    refine V_region Γ [9] [0, 1, 2, 3, 4, 6, 7, 16, 19, 32, 33, 34, 35, 44] (evs ?_)
    all_goals (try with_reducible (repeat' (first | apply And.intro | intro _)))
    all_goals (try (first | exact True.intro | omega))
    refine V_cond (evs ?_)
    refine ⟨fun hc => ?_, fun hc => ?_⟩
    · refine WA_seq (x := (fcd Try.f10 [1, 1, 1, 0, 1, 0, 0])) (y := (fcd Try.f10 [1, 1, 1, 0, 1, 0, 1])) ?_
      refine V_region Γ [9] [0, 1, 2, 3, 4, 6, 7, 16, 19, 32, 33, 34, 35, 44] (evs ?_)
      all_goals (try with_reducible (repeat' (first | apply And.intro | intro _)))
      all_goals (try (first | exact True.intro | omega | exact empty_fn _))
      refine V_ret (evs ?_)
      first | exact cv1 hc | exact cv2 hc | exact cv3 ‹_› hc | exact cv4 hI ‹¬ _› hc
    · refine WA_skip ?_
      refine WA_seq (x := (fcd Try.f10 [1, 1, 1, 1, 0])) (y := (fcd Try.f10 [1, 1, 1, 1, 1])) ?_
      refine V_region Γ [9] [0, 1, 2, 3, 4, 6, 7, 16, 19, 32, 33, 34, 35, 44] (evs ?_)
      all_goals (try with_reducible (repeat' (first | apply And.intro | intro _)))
      all_goals (try (first | exact True.intro | omega))
      refine WA_seq (x := (fcd Try.f10 [1, 1, 1, 1, 1, 0])) (y := (fcd Try.f10 [1, 1, 1, 1, 1, 1])) ?_
      refine WA_seq (x := (fcd Try.f10 [1, 1, 1, 1, 1, 0, 0])) (y := (fcd Try.f10 [1, 1, 1, 1, 1, 0, 1])) ?_
      refine V_region Γ [9] [0, 1, 2, 3, 4, 6, 7, 16, 19, 32, 33, 34, 35, 44] (evs ?_)
      all_goals (try with_reducible (repeat' (first | apply And.intro | intro _)))
      all_goals (try (first | exact True.intro | omega))
      refine WA_block (c := (fcd Try.f10 [1, 1, 1, 1, 1, 0, 1, 0])) ?_
      refine V_loop (c := (fcd Try.f10 [1, 1, 1, 1, 1, 0, 1, 0, 0])) (α := Nat) [2, 4, 6, 7, 34, 35, 44] [6, 13900, 13901, 13902, 13903, 14100, 14101, 14102, 14103, 14200, 14201, 14202, 14203] (fun k => [(34, .dat (.i (k : Int))), (4, .dat (.i (sumT r k)))]) (fun k => []) (fun k => k ≤ (tilesL r).length) (fun k => (tilesL r).length - k) 0 [] ?_ (evs ?_) ?_
      · exact Nat.zero_le _
      · (try with_reducible (repeat' (first | apply And.intro | intro _)))
        all_goals (first | exact True.intro | omega | (exact cv0 r))
      · intro k hI
        refine WA_seq (x := (fcd Try.f10 [1, 1, 1, 1, 1, 0, 1, 0, 0, 0])) (y := (fcd Try.f10 [1, 1, 1, 1, 1, 0, 1, 0, 0, 1])) ?_
        refine V_region Γ [9] [0, 1, 2, 3, 4, 6, 7, 16, 19, 32, 33, 34, 35, 44] (evs ?_)
        all_goals (try with_reducible (repeat' (first | apply And.intro | intro _)))
        all_goals (try (first | exact True.intro | omega))
        refine WA_seq (x := (fcd Try.f10 [1, 1, 1, 1, 1, 0, 1, 0, 0, 1, 0])) (y := (fcd Try.f10 [1, 1, 1, 1, 1, 0, 1, 0, 0, 1, 1])) ?_
        refine V_cond (evs ?_)
        refine ⟨fun hc => ?_, fun hc => ?_⟩
        · refine WA_skip ?_
          refine WA_seq (x := (fcd Try.f10 [1, 1, 1, 1, 1, 0, 1, 0, 0, 1, 1, 0])) (y := (fcd Try.f10 [1, 1, 1, 1, 1, 0, 1, 0, 0, 1, 1, 1])) ?_
          refine WA_block (c := (fcd Try.f10 [1, 1, 1, 1, 1, 0, 1, 0, 0, 1, 1, 0, 0])) ?_
          refine WA_seq (x := (fcd Try.f10 [1, 1, 1, 1, 1, 0, 1, 0, 0, 1, 1, 0, 0, 0])) (y := (fcd Try.f10 [1, 1, 1, 1, 1, 0, 1, 0, 0, 1, 1, 0, 0, 1])) ?_
          refine V_region Γ [9] [0, 1, 2, 3, 4, 6, 7, 16, 19, 32, 33, 34, 35, 44] (evs ?_)
          all_goals (try with_reducible (repeat' (first | apply And.intro | intro _)))
          all_goals (try (first | exact True.intro | omega))
          refine WA_seq (x := (fcd Try.f10 [1, 1, 1, 1, 1, 0, 1, 0, 0, 1, 1, 0, 0, 1, 0])) (y := (fcd Try.f10 [1, 1, 1, 1, 1, 0, 1, 0, 0, 1, 1, 0, 0, 1, 1])) ?_
          refine V_draw Γ [9] [0, 1, 2, 3, 4, 6, 7, 16, 19, 32, 33, 34, 35, 44] mixed (by kernel_rfl) (evs ?_)
          all_goals (try with_reducible (repeat' (first | apply And.intro | intro _)))
          all_goals (try (first | exact True.intro | omega | exact tileR_fn _ | exact meet_fn _ _ | exact area_fn _))
          refine WA_seq (x := (fcd Try.f10 [1, 1, 1, 1, 1, 0, 1, 0, 0, 1, 1, 0, 0, 1, 1, 0])) (y := (fcd Try.f10 [1, 1, 1, 1, 1, 0, 1, 0, 0, 1, 1, 0, 0, 1, 1, 1])) ?_
          refine WA_seq (x := (fcd Try.f10 [1, 1, 1, 1, 1, 0, 1, 0, 0, 1, 1, 0, 0, 1, 1, 0, 0])) (y := (fcd Try.f10 [1, 1, 1, 1, 1, 0, 1, 0, 0, 1, 1, 0, 0, 1, 1, 0, 1])) ?_
          refine V_region Γ [9] [0, 1, 2, 3, 4, 6, 7, 16, 19, 32, 33, 34, 35, 44] (evs ?_)
          all_goals (try with_reducible (repeat' (first | apply And.intro | intro _)))
          all_goals (try (first | exact True.intro | omega))
          refine V_cond (evs ?_)
          refine ⟨fun hc => ?_, fun hc => ?_⟩
          · refine WA_seq (x := (fcd Try.f10 [1, 1, 1, 1, 1, 0, 1, 0, 0, 1, 1, 0, 0, 1, 1, 0, 1, 0, 0])) (y := (fcd Try.f10 [1, 1, 1, 1, 1, 0, 1, 0, 0, 1, 1, 0, 0, 1, 1, 0, 1, 0, 1])) ?_
            refine V_region Γ [9] [0, 1, 2, 3, 4, 6, 7, 16, 19, 32, 33, 34, 35, 44] (evs ?_)
            all_goals (try with_reducible (repeat' (first | apply And.intro | intro _)))
            all_goals (try (first | exact True.intro | omega))
            refine V_ret (evs ?_)
            first | exact cv1 hc | exact cv2 hc | exact cv3 ‹_› hc | exact cv4 hI ‹¬ _› hc
          · refine WA_skip ?_
            refine V_region Γ [9] [0, 1, 2, 3, 4, 6, 7, 16, 19, 32, 33, 34, 35, 44] (evs ?_)
            all_goals (try with_reducible (repeat' (first | apply And.intro | intro _)))
            all_goals (try (first | exact True.intro | omega))
            refine V_region Γ [9] [0, 1, 2, 3, 4, 6, 7, 16, 19, 32, 33, 34, 35, 44] (evs ?_)
            all_goals (try with_reducible (repeat' (first | apply And.intro | intro _)))
            all_goals (try (first | exact True.intro | omega))
            refine V_next [] (k + 1) (evs ?_) ?_ ?_
            all_goals (try with_reducible (repeat' (first | apply And.intro | intro _)))
            all_goals (first | exact True.intro | omega | (first | exact w64n ‹(k : Int) < _› ‹_› | exact cv5 ‹_›))
        · refine V_exit (evs ?_)
          refine WA_seq (x := (fcd Try.f10 [1, 1, 1, 1, 1, 1, 0])) (y := (fcd Try.f10 [1, 1, 1, 1, 1, 1, 1])) ?_
          refine V_region Γ [9] [0, 1, 2, 3, 4, 6, 7, 16, 19, 32, 33, 34, 35, 44] (evs ?_)
          all_goals (try with_reducible (repeat' (first | apply And.intro | intro _)))
          all_goals (try (first | exact True.intro | omega | exact area_fn _))
          refine V_ret (evs ?_)
          first | exact cv1 hc | exact cv2 hc | exact cv3 ‹_› hc | exact cv4 hI ‹¬ _› hc

end Go.Rect
