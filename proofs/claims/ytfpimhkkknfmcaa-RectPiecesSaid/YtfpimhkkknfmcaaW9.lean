import Derived.Test.YtfpimhkkknfmcaaW6
import Derived.Test.YtfpimhkkknfmcaaRectB
namespace Go.Rect
open Go.RowKit Go.Proofs Go.Eng
/-- imageeditor/imageeditorlaw02.RectPieces -/
theorem l9_fn (a b : Rc) : Eng.Fn Try.prog 9 [rcD a, rcD b] (.dat (.b true)) := by
  refine Eng.Fn.by (fn := Try.f9) 70 [.tmp 4] Try.func9 rfl Try.ntmps9 rfl (by simp) fun w0 => ?_
  refine WA_seq (x := (fcd Try.f9 [0])) (y := (fcd Try.f9 [1])) ?_
  refine V_region Γ [13] [0, 1, 2, 3, 4, 5, 6, 7, 8, 10, 20, 25, 26, 27, 28, 46, 49, 50, 51, 52, 59] (evs ?_)
  all_goals (try with_reducible (repeat' (first | apply And.intro | intro _)))
  all_goals (try (first | exact True.intro | omega))
  refine WA_seq (x := (fcd Try.f9 [1, 0])) (y := (fcd Try.f9 [1, 1])) ?_
  refine V_region Γ [13] [0, 1, 2, 3, 4, 5, 6, 7, 8, 10, 20, 25, 26, 27, 28, 46, 49, 50, 51, 52, 59] (evs ?_)
  all_goals (try with_reducible (repeat' (first | apply And.intro | intro _)))
  all_goals (try (first | exact True.intro | omega | exact minus_fn _ _))
  refine WA_seq (x := (fcd Try.f9 [1, 1, 0])) (y := (fcd Try.f9 [1, 1, 1])) ?_
  refine WA_seq (x := (fcd Try.f9 [1, 1, 0, 0])) (y := (fcd Try.f9 [1, 1, 0, 1])) ?_
  refine V_region Γ [13] [0, 1, 2, 3, 4, 5, 6, 7, 8, 10, 20, 25, 26, 27, 28, 46, 49, 50, 51, 52, 59] (evs ?_)
  all_goals (try with_reducible (repeat' (first | apply And.intro | intro _)))
  all_goals (try (first | exact True.intro | omega | exact awake_fn))
  refine V_cond (evs ?_)
  refine ⟨fun hc => ?_, fun hc => ?_⟩
  · refine WA_seq (x := (fcd Try.f9 [1, 1, 0, 1, 0, 0])) (y := (fcd Try.f9 [1, 1, 0, 1, 0, 1])) ?_
    refine V_region Γ [13] [0, 1, 2, 3, 4, 5, 6, 7, 8, 10, 20, 25, 26, 27, 28, 46, 49, 50, 51, 52, 59] (evs ?_)
    all_goals (try with_reducible (repeat' (first | apply And.intro | intro _)))
    all_goals (try (first | exact True.intro | omega))
    refine V_ret (evs ?_)
    first | exact pc1 hc | exact pc2 ‹_› hc | exact pc3 hJ ‹(k : Int) < _› ‹(j : Int) < _› hc | exact pc4 hI hc
  · refine WA_skip ?_
    refine WA_seq (x := (fcd Try.f9 [1, 1, 1, 0])) (y := (fcd Try.f9 [1, 1, 1, 1])) ?_
    refine V_region Γ [13] [0, 1, 2, 3, 4, 5, 6, 7, 8, 10, 20, 25, 26, 27, 28, 46, 49, 50, 51, 52, 59] (evs ?_)
    all_goals (try with_reducible (repeat' (first | apply And.intro | intro _)))
    all_goals (try (first | exact True.intro | omega | exact meet_fn _ _ | exact area_fn _))
    refine WA_seq (x := (fcd Try.f9 [1, 1, 1, 1, 0])) (y := (fcd Try.f9 [1, 1, 1, 1, 1])) ?_
    refine WA_seq (x := (fcd Try.f9 [1, 1, 1, 1, 0, 0])) (y := (fcd Try.f9 [1, 1, 1, 1, 0, 1])) ?_
    refine V_region Γ [13] [0, 1, 2, 3, 4, 5, 6, 7, 8, 10, 20, 25, 26, 27, 28, 46, 49, 50, 51, 52, 59] (evs ?_)
    all_goals (try with_reducible (repeat' (first | apply And.intro | intro _)))
    all_goals (try (first | exact True.intro | omega))
    refine WA_block (c := (fcd Try.f9 [1, 1, 1, 1, 0, 1, 0])) ?_
    refine V_loop (c := (fcd Try.f9 [1, 1, 1, 1, 0, 1, 0, 0])) (α := Nat) [4, 6, 7, 8, 10, 27, 28, 46, 49, 50, 51, 52, 59] [8, 10, 13300, 13301, 13302, 13303, 13700, 13701, 13702, 13703, 14300, 14301, 14302, 14303, 14400, 14401, 14402, 14403, 15700, 15701, 15702, 15703, 15800, 15801, 15802, 15803, 16300, 16301, 16302, 16303] (fun k => [(27, .dat (.i (k : Int))), (6, .dat (.i (sumK a b k)))]) (fun k => []) (fun k => k ≤ (minusL a b).length) (fun k => (minusL a b).length - k) 0 [] ?_ (evs ?_) ?_
    · exact Nat.zero_le _
    · (try with_reducible (repeat' (first | apply And.intro | intro _)))
      all_goals (first | exact True.intro | omega | (exact pc0 a b))
    · intro k hI
      refine WA_seq (x := (fcd Try.f9 [1, 1, 1, 1, 0, 1, 0, 0, 0])) (y := (fcd Try.f9 [1, 1, 1, 1, 0, 1, 0, 0, 1])) ?_
      refine V_region Γ [13] [0, 1, 2, 3, 4, 5, 6, 7, 8, 10, 20, 25, 26, 27, 28, 46, 49, 50, 51, 52, 59] (evs ?_)
      all_goals (try with_reducible (repeat' (first | apply And.intro | intro _)))
      all_goals (try (first | exact True.intro | omega))
      refine WA_seq (x := (fcd Try.f9 [1, 1, 1, 1, 0, 1, 0, 0, 1, 0])) (y := (fcd Try.f9 [1, 1, 1, 1, 0, 1, 0, 0, 1, 1])) ?_
      refine V_cond (evs ?_)
      refine ⟨fun hc => ?_, fun hc => ?_⟩
      · refine WA_skip ?_
        refine WA_seq (x := (fcd Try.f9 [1, 1, 1, 1, 0, 1, 0, 0, 1, 1, 0])) (y := (fcd Try.f9 [1, 1, 1, 1, 0, 1, 0, 0, 1, 1, 1])) ?_
        refine WA_block (c := (fcd Try.f9 [1, 1, 1, 1, 0, 1, 0, 0, 1, 1, 0, 0])) ?_
        refine WA_seq (x := (fcd Try.f9 [1, 1, 1, 1, 0, 1, 0, 0, 1, 1, 0, 0, 0])) (y := (fcd Try.f9 [1, 1, 1, 1, 0, 1, 0, 0, 1, 1, 0, 0, 1])) ?_
        refine V_region Γ [13] [0, 1, 2, 3, 4, 5, 6, 7, 8, 10, 20, 25, 26, 27, 28, 46, 49, 50, 51, 52, 59] (evs ?_)
        all_goals (try with_reducible (repeat' (first | apply And.intro | intro _)))
        all_goals (try (first | exact True.intro | omega))
        refine WA_seq (x := (fcd Try.f9 [1, 1, 1, 1, 0, 1, 0, 0, 1, 1, 0, 0, 1, 0])) (y := (fcd Try.f9 [1, 1, 1, 1, 0, 1, 0, 0, 1, 1, 0, 0, 1, 1])) ?_
        refine WA_seq (x := (fcd Try.f9 [1, 1, 1, 1, 0, 1, 0, 0, 1, 1, 0, 0, 1, 0, 0])) (y := (fcd Try.f9 [1, 1, 1, 1, 0, 1, 0, 0, 1, 1, 0, 0, 1, 0, 1])) ?_
        refine V_region Γ [13] [0, 1, 2, 3, 4, 5, 6, 7, 8, 10, 20, 25, 26, 27, 28, 46, 49, 50, 51, 52, 59] (evs ?_)
        all_goals (try with_reducible (repeat' (first | apply And.intro | intro _)))
        all_goals (try (first | exact True.intro | omega | exact empty_fn _ | exact within_fn _ _ | exact meet_fn _ _))
        refine V_cond (evs ?_)
        refine ⟨fun hc => ?_, fun hc => ?_⟩
        · refine WA_seq (x := (fcd Try.f9 [1, 1, 1, 1, 0, 1, 0, 0, 1, 1, 0, 0, 1, 0, 1, 0, 0])) (y := (fcd Try.f9 [1, 1, 1, 1, 0, 1, 0, 0, 1, 1, 0, 0, 1, 0, 1, 0, 1])) ?_
          refine V_region Γ [13] [0, 1, 2, 3, 4, 5, 6, 7, 8, 10, 20, 25, 26, 27, 28, 46, 49, 50, 51, 52, 59] (evs ?_)
          all_goals (try with_reducible (repeat' (first | apply And.intro | intro _)))
          all_goals (try (first | exact True.intro | omega))
          refine V_ret (evs ?_)
          first | exact pc1 hc | exact pc2 ‹_› hc | exact pc3 hJ ‹(k : Int) < _› ‹(j : Int) < _› hc | exact pc4 hI hc
        · refine WA_skip ?_
          refine WA_seq (x := (fcd Try.f9 [1, 1, 1, 1, 0, 1, 0, 0, 1, 1, 0, 0, 1, 1, 0])) (y := (fcd Try.f9 [1, 1, 1, 1, 0, 1, 0, 0, 1, 1, 0, 0, 1, 1, 1])) ?_
          refine WA_seq (x := (fcd Try.f9 [1, 1, 1, 1, 0, 1, 0, 0, 1, 1, 0, 0, 1, 1, 0, 0])) (y := (fcd Try.f9 [1, 1, 1, 1, 0, 1, 0, 0, 1, 1, 0, 0, 1, 1, 0, 1])) ?_
          refine V_region Γ [13] [0, 1, 2, 3, 4, 5, 6, 7, 8, 10, 20, 25, 26, 27, 28, 46, 49, 50, 51, 52, 59] (evs ?_)
          simp only [← List.map_take, List.length_map]
          all_goals (try with_reducible (repeat' (first | apply And.intro | intro _)))
          all_goals (try (first | exact True.intro | omega))
          refine WA_block (c := (fcd Try.f9 [1, 1, 1, 1, 0, 1, 0, 0, 1, 1, 0, 0, 1, 1, 0, 1, 0])) ?_
          refine V_loop (c := (fcd Try.f9 [1, 1, 1, 1, 0, 1, 0, 0, 1, 1, 0, 0, 1, 1, 0, 1, 0, 0])) (α := Nat) [4, 10, 51, 52, 59] [10, 15700, 15701, 15702, 15703, 15800, 15801, 15802, 15803] (fun j => [(51, .dat (.i (j : Int)))]) (fun j => []) (fun j => j ≤ k) (fun j => k - j) 0 [] ?_ (evs ?_) ?_
          · exact Nat.zero_le _
          · (try with_reducible (repeat' (first | apply And.intro | intro _)))
            all_goals (first | exact True.intro | omega)
          · intro j hJ
            refine WA_seq (x := (fcd Try.f9 [1, 1, 1, 1, 0, 1, 0, 0, 1, 1, 0, 0, 1, 1, 0, 1, 0, 0, 0])) (y := (fcd Try.f9 [1, 1, 1, 1, 0, 1, 0, 0, 1, 1, 0, 0, 1, 1, 0, 1, 0, 0, 1])) ?_
            refine V_region Γ [13] [0, 1, 2, 3, 4, 5, 6, 7, 8, 10, 20, 25, 26, 27, 28, 46, 49, 50, 51, 52, 59] (evs ?_)
            all_goals (try with_reducible (repeat' (first | apply And.intro | intro _)))
            all_goals (try (first | exact True.intro | omega))
            refine WA_seq (x := (fcd Try.f9 [1, 1, 1, 1, 0, 1, 0, 0, 1, 1, 0, 0, 1, 1, 0, 1, 0, 0, 1, 0])) (y := (fcd Try.f9 [1, 1, 1, 1, 0, 1, 0, 0, 1, 1, 0, 0, 1, 1, 0, 1, 0, 0, 1, 1])) ?_
            refine V_cond (evs ?_)
            refine ⟨fun hc => ?_, fun hc => ?_⟩
            · refine WA_skip ?_
              refine WA_seq (x := (fcd Try.f9 [1, 1, 1, 1, 0, 1, 0, 0, 1, 1, 0, 0, 1, 1, 0, 1, 0, 0, 1, 1, 0])) (y := (fcd Try.f9 [1, 1, 1, 1, 0, 1, 0, 0, 1, 1, 0, 0, 1, 1, 0, 1, 0, 0, 1, 1, 1])) ?_
              refine WA_block (c := (fcd Try.f9 [1, 1, 1, 1, 0, 1, 0, 0, 1, 1, 0, 0, 1, 1, 0, 1, 0, 0, 1, 1, 0, 0])) ?_
              refine WA_seq (x := (fcd Try.f9 [1, 1, 1, 1, 0, 1, 0, 0, 1, 1, 0, 0, 1, 1, 0, 1, 0, 0, 1, 1, 0, 0, 0])) (y := (fcd Try.f9 [1, 1, 1, 1, 0, 1, 0, 0, 1, 1, 0, 0, 1, 1, 0, 1, 0, 0, 1, 1, 0, 0, 1])) ?_
              refine V_region Γ [13] [0, 1, 2, 3, 4, 5, 6, 7, 8, 10, 20, 25, 26, 27, 28, 46, 49, 50, 51, 52, 59] (evs ?_)
              all_goals (try with_reducible (repeat' (first | apply And.intro | intro _)))
              all_goals (try (first | exact True.intro | omega))
              refine WA_seq (x := (fcd Try.f9 [1, 1, 1, 1, 0, 1, 0, 0, 1, 1, 0, 0, 1, 1, 0, 1, 0, 0, 1, 1, 0, 0, 1, 0])) (y := (fcd Try.f9 [1, 1, 1, 1, 0, 1, 0, 0, 1, 1, 0, 0, 1, 1, 0, 1, 0, 0, 1, 1, 0, 0, 1, 1])) ?_
              refine V_region Γ [13] [0, 1, 2, 3, 4, 5, 6, 7, 8, 10, 20, 25, 26, 27, 28, 46, 49, 50, 51, 52, 59] (evs ?_)
              all_goals (try with_reducible (repeat' (first | apply And.intro | intro _)))
              all_goals (try (first | exact True.intro | omega | exact meet_fn _ _ | exact empty_fn _))
              refine V_cond (evs ?_)
              refine ⟨fun hc => ?_, fun hc => ?_⟩
              · refine WA_seq (x := (fcd Try.f9 [1, 1, 1, 1, 0, 1, 0, 0, 1, 1, 0, 0, 1, 1, 0, 1, 0, 0, 1, 1, 0, 0, 1, 1, 0, 0])) (y := (fcd Try.f9 [1, 1, 1, 1, 0, 1, 0, 0, 1, 1, 0, 0, 1, 1, 0, 1, 0, 0, 1, 1, 0, 0, 1, 1, 0, 1])) ?_
                refine V_region Γ [13] [0, 1, 2, 3, 4, 5, 6, 7, 8, 10, 20, 25, 26, 27, 28, 46, 49, 50, 51, 52, 59] (evs ?_)
                all_goals (try with_reducible (repeat' (first | apply And.intro | intro _)))
                all_goals (try (first | exact True.intro | omega))
                refine V_ret (evs ?_)
                first | exact pc1 hc | exact pc2 ‹_› hc | exact pc3 hJ ‹(k : Int) < _› ‹(j : Int) < _› hc | exact pc4 hI hc
              · refine WA_skip ?_
                refine V_region Γ [13] [0, 1, 2, 3, 4, 5, 6, 7, 8, 10, 20, 25, 26, 27, 28, 46, 49, 50, 51, 52, 59] (evs ?_)
                all_goals (try with_reducible (repeat' (first | apply And.intro | intro _)))
                all_goals (try (first | exact True.intro | omega))
                refine V_next [] (j + 1) (evs ?_) ?_ ?_
                all_goals (try with_reducible (repeat' (first | apply And.intro | intro _)))
                all_goals (first | exact True.intro | omega | (first | exact w64n ‹(j : Int) < _› ‹_› | exact pc6 hJ ‹(j : Int) < _› | exact pc7 ‹(j : Int) < _›))
            · refine V_exit (evs ?_)
              refine V_region Γ [13] [0, 1, 2, 3, 4, 5, 6, 7, 8, 10, 20, 25, 26, 27, 28, 46, 49, 50, 51, 52, 59] (evs ?_)
              all_goals (try with_reducible (repeat' (first | apply And.intro | intro _)))
              all_goals (try (first | exact True.intro | omega | exact area_fn _))
              refine V_region Γ [13] [0, 1, 2, 3, 4, 5, 6, 7, 8, 10, 20, 25, 26, 27, 28, 46, 49, 50, 51, 52, 59] (evs ?_)
              all_goals (try with_reducible (repeat' (first | apply And.intro | intro _)))
              all_goals (try (first | exact True.intro | omega))
              refine V_next [] (k + 1) (evs ?_) ?_ ?_
              all_goals (try with_reducible (repeat' (first | apply And.intro | intro _)))
              all_goals (first | exact True.intro | omega | (first | exact w64n ‹(k : Int) < _› ‹_› | exact pc5 ‹_›))
      · refine V_exit (evs ?_)
        refine WA_seq (x := (fcd Try.f9 [1, 1, 1, 1, 1, 0])) (y := (fcd Try.f9 [1, 1, 1, 1, 1, 1])) ?_
        refine V_region Γ [13] [0, 1, 2, 3, 4, 5, 6, 7, 8, 10, 20, 25, 26, 27, 28, 46, 49, 50, 51, 52, 59] (evs ?_)
        all_goals (try with_reducible (repeat' (first | apply And.intro | intro _)))
        all_goals (try (first | exact True.intro | omega | exact area_fn _))
        refine V_ret (evs ?_)
        first | exact pc1 hc | exact pc2 ‹_› hc | exact pc3 hJ ‹(k : Int) < _› ‹(j : Int) < _› hc | exact pc4 hI hc

end Go.Rect
