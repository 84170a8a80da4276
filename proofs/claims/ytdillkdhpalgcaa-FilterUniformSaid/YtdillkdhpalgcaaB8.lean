import Derived.Test.YtdillkdhpalgcaaC6
set_option linter.unusedSimpArgs false
set_option linter.unusedVariables false
set_option linter.unusedSimpArgs false
set_option linter.unusedVariables false
namespace Go.S16
open Go.RowKit Go.Proofs Go.Eng Go.Rect
set_option maxHeartbeats 2000000 in
/-- imageeditor/filter.Whole -/
theorem whole_fn (i : Im) (k : Int) (ps : List Int) : Eng.Fn Try.prog 18 [imD i, .i k, .sl 1 (ps.map iC)] (.tup [.agg [.dat (.i (whlR i k ps).w), .dat (.i (whlR i k ps).h), .own 51 4 ((whlR i k ps).p.map pxC)], .dat (.i (whlE i k ps))]) := by
  refine Eng.Fn.by (fn := Try.f18) 42 [.cell 6 36, .tmp 7] Try.func18 rfl Try.ntmps18 rfl (by simp) fun w0 G0 => ?_
  refine WA_seq (x := (fcd Try.f18 [0])) (y := (fcd Try.f18 [1])) ?_
  refine V_regionX Γ Δ [] [0, 1, 2, 3, 6, 7, 8, 9, 10, 14, 21, 26] (evs ?_)
  all_goals (try with_reducible (repeat' (first | apply And.intro | intro _)))
  all_goals (try (first | with_reducible refine wa_id ?_ | exact True.intro | omega))
  refine WA_seq (x := (fcd Try.f18 [1, 0])) (y := (fcd Try.f18 [1, 1])) ?_
  refine WA_seq (x := (fcd Try.f18 [1, 0, 0])) (y := (fcd Try.f18 [1, 0, 1])) ?_
  refine V_regionX Γ Δ [] [0, 1, 2, 3, 6, 7, 8, 9, 10, 14, 21, 26] (evs ?_)
  all_goals (try with_reducible (repeat' (first | apply And.intro | intro _)))
  all_goals (try (first | with_reducible refine wa_id ?_ | exact True.intro | exact icheck_fn ⟨_, _, _⟩ | omega))
  refine WA_seq (x := (fcd Try.f18 [1, 0, 1, 0])) (y := (fcd Try.f18 [1, 0, 1, 1])) ?_
  refine V_regionX Γ Δ [] [0, 1, 2, 3, 6, 7, 8, 9, 10, 14, 21, 26] (evs ?_)
  all_goals (try with_reducible (repeat' (first | apply And.intro | intro _)))
  all_goals (try (first | with_reducible refine wa_id ?_ | exact True.intro | omega))
  refine V_cond (evs ?_)
  refine ⟨fun hc => ?_, fun hc => ?_⟩
  · refine WA_seq (x := (fcd Try.f18 [1, 0, 1, 1, 0, 0])) (y := (fcd Try.f18 [1, 0, 1, 1, 0, 1])) ?_
    refine V_regionX Γ Δ [] [0, 1, 2, 3, 6, 7, 8, 9, 10, 14, 21, 26] (evs ?_)
    all_goals (try with_reducible (repeat' (first | apply And.intro | intro _)))
    all_goals (try (first | with_reducible refine wa_id ?_ | exact True.intro | omega))
    refine V_ret (evs ?_)
    first | exact ik0 _ (wh1 hc) | exact ik0 _ (wh2 ‹_› hc) | exact ik0 _ (wh3 ‹_› ‹_› hc) | exact wh5 (wh4 ‹_› ‹_› ‹_›)
  · refine WA_skip ?_
    refine WA_seq (x := (fcd Try.f18 [1, 1, 0])) (y := (fcd Try.f18 [1, 1, 1])) ?_
    refine WA_seq (x := (fcd Try.f18 [1, 1, 0, 0])) (y := (fcd Try.f18 [1, 1, 0, 1])) ?_
    refine V_regionX Γ Δ [] [0, 1, 2, 3, 6, 7, 8, 9, 10, 14, 21, 26] (evs ?_)
    all_goals (try with_reducible (repeat' (first | apply And.intro | intro _)))
    all_goals (try (first | with_reducible refine wa_id ?_ | exact True.intro | exact fcheck_fn _ _ | omega))
    refine WA_seq (x := (fcd Try.f18 [1, 1, 0, 1, 0])) (y := (fcd Try.f18 [1, 1, 0, 1, 1])) ?_
    refine V_regionX Γ Δ [] [0, 1, 2, 3, 6, 7, 8, 9, 10, 14, 21, 26] (evs ?_)
    all_goals (try with_reducible (repeat' (first | apply And.intro | intro _)))
    all_goals (try (first | with_reducible refine wa_id ?_ | exact True.intro | omega))
    refine V_cond (evs ?_)
    refine ⟨fun hc => ?_, fun hc => ?_⟩
    · refine WA_seq (x := (fcd Try.f18 [1, 1, 0, 1, 1, 0, 0])) (y := (fcd Try.f18 [1, 1, 0, 1, 1, 0, 1])) ?_
      refine V_regionX Γ Δ [] [0, 1, 2, 3, 6, 7, 8, 9, 10, 14, 21, 26] (evs ?_)
      all_goals (try with_reducible (repeat' (first | apply And.intro | intro _)))
      all_goals (try (first | with_reducible refine wa_id ?_ | exact True.intro | omega))
      refine V_ret (evs ?_)
      first | exact ik0 _ (wh1 hc) | exact ik0 _ (wh2 ‹_› hc) | exact ik0 _ (wh3 ‹_› ‹_› hc) | exact wh5 (wh4 ‹_› ‹_› ‹_›)
    · refine WA_skip ?_
      refine WA_seq (x := (fcd Try.f18 [1, 1, 1, 0])) (y := (fcd Try.f18 [1, 1, 1, 1])) ?_
      refine WA_seq (x := (fcd Try.f18 [1, 1, 1, 0, 0])) (y := (fcd Try.f18 [1, 1, 1, 0, 1])) ?_
      refine V_regionX Γ Δ [] [0, 1, 2, 3, 6, 7, 8, 9, 10, 14, 21, 26] (evs ?_)
      all_goals (try with_reducible (repeat' (first | apply And.intro | intro _)))
      all_goals (try (first | with_reducible refine wa_id ?_ | exact True.intro | omega))
      refine V_cond (evs ?_)
      refine ⟨fun hc => ?_, fun hc => ?_⟩
      · refine WA_seq (x := (fcd Try.f18 [1, 1, 1, 0, 1, 0, 0])) (y := (fcd Try.f18 [1, 1, 1, 0, 1, 0, 1])) ?_
        refine V_regionX Γ Δ [] [0, 1, 2, 3, 6, 7, 8, 9, 10, 14, 21, 26] (evs ?_)
        all_goals (try with_reducible (repeat' (first | apply And.intro | intro _)))
        all_goals (try (first | with_reducible refine wa_id ?_ | exact True.intro | omega))
        refine V_ret (evs ?_)
        first | exact ik0 _ (wh1 hc) | exact ik0 _ (wh2 ‹_› hc) | exact ik0 _ (wh3 ‹_› ‹_› hc) | exact wh5 (wh4 ‹_› ‹_› ‹_›)
      · refine WA_skip ?_
        refine WA_seq (x := (fcd Try.f18 [1, 1, 1, 1, 0])) (y := (fcd Try.f18 [1, 1, 1, 1, 1])) ?_
        refine V_regionX Γ Δ [] [0, 1, 2, 3, 6, 7, 8, 9, 10, 14, 21, 26] (evs ?_)
        all_goals (try with_reducible (repeat' (first | apply And.intro | intro _)))
        all_goals (try (first | with_reducible refine wa_id ?_ | exact True.intro | omega))
        refine WA_seq (x := (fcd Try.f18 [1, 1, 1, 1, 1, 0])) (y := (fcd Try.f18 [1, 1, 1, 1, 1, 1])) ?_
        refine V_regionX Γ Δ [] [0, 1, 2, 3, 6, 7, 8, 9, 10, 14, 21, 26] (evs ?_)
        all_goals (try with_reducible (repeat' (first | apply And.intro | intro _)))
        all_goals (try (first | with_reducible refine wa_id ?_ | exact True.intro | exact apply_all ⟨_, _, _⟩ ⟨_, _⟩ ⟨_, _, _, _⟩ _ _ ⟨_, _, _, _⟩ | omega))
        refine V_ret (evs ?_)
        first | exact ik0 _ (wh1 hc) | exact ik0 _ (wh2 ‹_› hc) | exact ik0 _ (wh3 ‹_› ‹_› hc) | exact wh5 (wh4 ‹_› ‹_› ‹_›)

end Go.S16

