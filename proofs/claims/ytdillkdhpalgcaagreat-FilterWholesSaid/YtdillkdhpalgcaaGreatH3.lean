import Derived.Test.YtdillkdhpalgcaaGreatH2
set_option linter.unusedSimpArgs false
set_option linter.unusedVariables false
set_option linter.unusedSimpArgs false
set_option linter.unusedVariables false
namespace Go.S16
open Go.RowKit Go.Proofs Go.Eng Go.Rect
set_option maxHeartbeats 4000000 in
theorem rwhole_fn (i : Im) (k : Int) (ps : List Int) : Eng.Fn Tryz.prog 10 [imD i, .i k, .sl 1 (ps.map iC)] (.tup [.agg [.dat (.i (whlR i k ps).w), .dat (.i (whlR i k ps).h), .own 49 4 ((whlR i k ps).p.map pxC)], .dat (.i (whlE i k ps))]) := by
  refine Eng.Fn.by (fn := Tryz.f10) 43 [.cell 6 24, .tmp 7] Tryz.func10 rfl Tryz.ntmps10 rfl (by simp) fun w0 G0 => ?_
  refine WA_seq (x := (fcd Tryz.f10 [0])) (y := (fcd Tryz.f10 [1])) ?_
  refine V_regionX Γ Δ [] [0, 1, 2, 3, 6, 7, 8, 9, 10, 14, 26] (evs ?_)
  all_goals (try with_reducible (repeat' (first | apply And.intro | intro _)))
  all_goals (try (first | with_reducible refine wa_id ?_ | exact True.intro | omega | exact rapply_fn i ⟨0, 0⟩ ⟨0, 0, i.w, i.h⟩ k ps ⟨0, 0, i.w, i.h⟩))
  refine WA_seq (x := (fcd Tryz.f10 [1, 0])) (y := (fcd Tryz.f10 [1, 1])) ?_
  refine WA_seq (x := (fcd Tryz.f10 [1, 0, 0])) (y := (fcd Tryz.f10 [1, 0, 1])) ?_
  refine V_regionX Γ Δ [] [0, 1, 2, 3, 6, 7, 8, 9, 10, 14, 26] (evs ?_)
  all_goals (try with_reducible (repeat' (first | apply And.intro | intro _)))
  all_goals (try (first | with_reducible refine wa_id ?_ | exact True.intro | exact richeck_fn ⟨_, _, _⟩ | omega | exact rapply_fn i ⟨0, 0⟩ ⟨0, 0, i.w, i.h⟩ k ps ⟨0, 0, i.w, i.h⟩))
  refine WA_seq (x := (fcd Tryz.f10 [1, 0, 1, 0])) (y := (fcd Tryz.f10 [1, 0, 1, 1])) ?_
  refine V_regionX Γ Δ [] [0, 1, 2, 3, 6, 7, 8, 9, 10, 14, 26] (evs ?_)
  all_goals (try with_reducible (repeat' (first | apply And.intro | intro _)))
  all_goals (try (first | with_reducible refine wa_id ?_ | exact True.intro | omega | exact rapply_fn i ⟨0, 0⟩ ⟨0, 0, i.w, i.h⟩ k ps ⟨0, 0, i.w, i.h⟩))
  refine V_cond (evs ?_)
  refine ⟨fun hc => ?_, fun hc => ?_⟩
  · refine WA_seq (x := (fcd Tryz.f10 [1, 0, 1, 1, 0, 0])) (y := (fcd Tryz.f10 [1, 0, 1, 1, 0, 1])) ?_
    refine V_regionX Γ Δ [] [0, 1, 2, 3, 6, 7, 8, 9, 10, 14, 26] (evs ?_)
    all_goals (try with_reducible (repeat' (first | apply And.intro | intro _)))
    all_goals (try (first | with_reducible refine wa_id ?_ | exact True.intro | omega | exact rapply_fn i ⟨0, 0⟩ ⟨0, 0, i.w, i.h⟩ k ps ⟨0, 0, i.w, i.h⟩))
    refine V_ret (evs ?_)
    first | exact ik0 _ (wh1 hc) | exact ik0 _ (wh2r ‹_› hc) | exact wh5 (wh4 ‹_› hc.1 hc.2)
  · refine WA_skip ?_
    refine WA_seq (x := (fcd Tryz.f10 [1, 1, 0])) (y := (fcd Tryz.f10 [1, 1, 1])) ?_
    refine WA_seq (x := (fcd Tryz.f10 [1, 1, 0, 0])) (y := (fcd Tryz.f10 [1, 1, 0, 1])) ?_
    refine V_regionX Γ Δ [] [0, 1, 2, 3, 6, 7, 8, 9, 10, 14, 26] (evs ?_)
    all_goals (try with_reducible (repeat' (first | apply And.intro | intro _)))
    all_goals (try (first | with_reducible refine wa_id ?_ | exact True.intro | exact rfcheck_fn _ _ | omega | exact rapply_fn i ⟨0, 0⟩ ⟨0, 0, i.w, i.h⟩ k ps ⟨0, 0, i.w, i.h⟩))
    refine WA_seq (x := (fcd Tryz.f10 [1, 1, 0, 1, 0])) (y := (fcd Tryz.f10 [1, 1, 0, 1, 1])) ?_
    refine V_regionX Γ Δ [] [0, 1, 2, 3, 6, 7, 8, 9, 10, 14, 26] (evs ?_)
    all_goals (try with_reducible (repeat' (first | apply And.intro | intro _)))
    all_goals (try (first | with_reducible refine wa_id ?_ | exact True.intro | omega | exact rapply_fn i ⟨0, 0⟩ ⟨0, 0, i.w, i.h⟩ k ps ⟨0, 0, i.w, i.h⟩))
    refine V_cond (evs ?_)
    refine ⟨fun hc => ?_, fun hc => ?_⟩
    · refine WA_seq (x := (fcd Tryz.f10 [1, 1, 0, 1, 1, 0, 0])) (y := (fcd Tryz.f10 [1, 1, 0, 1, 1, 0, 1])) ?_
      refine V_regionX Γ Δ [] [0, 1, 2, 3, 6, 7, 8, 9, 10, 14, 26] (evs ?_)
      all_goals (try with_reducible (repeat' (first | apply And.intro | intro _)))
      all_goals (try (first | with_reducible refine wa_id ?_ | exact True.intro | omega | exact rapply_fn i ⟨0, 0⟩ ⟨0, 0, i.w, i.h⟩ k ps ⟨0, 0, i.w, i.h⟩))
      refine V_ret (evs ?_)
      first | exact ik0 _ (wh1 hc) | exact ik0 _ (wh2r ‹_› hc) | exact wh5 (wh4 ‹_› hc.1 hc.2)
    · refine WA_skip ?_
      refine WA_seq (x := (fcd Tryz.f10 [1, 1, 1, 0])) (y := (fcd Tryz.f10 [1, 1, 1, 1])) ?_
      refine V_regionX Γ Δ [] [0, 1, 2, 3, 6, 7, 8, 9, 10, 14, 26] (evs ?_)
      all_goals (try with_reducible (repeat' (first | apply And.intro | intro _)))
      all_goals (try (first | with_reducible refine wa_id ?_ | exact True.intro | omega | exact rapply_fn i ⟨0, 0⟩ ⟨0, 0, i.w, i.h⟩ k ps ⟨0, 0, i.w, i.h⟩))
      refine WA_seq (x := (fcd Tryz.f10 [1, 1, 1, 1, 0])) (y := (fcd Tryz.f10 [1, 1, 1, 1, 1])) ?_
      refine V_regionX Γ Δ [] [0, 1, 2, 3, 6, 7, 8, 9, 10, 14, 26] (evs ?_)
      all_goals (try with_reducible (repeat' (first | apply And.intro | intro _)))
      all_goals (try (first | with_reducible refine wa_id ?_ | exact True.intro | exact rapply_fn ⟨_, _, _⟩ ⟨_, _⟩ ⟨_, _, _, _⟩ _ _ ⟨_, _, _, _⟩ | omega | exact rapply_fn i ⟨0, 0⟩ ⟨0, 0, i.w, i.h⟩ k ps ⟨0, 0, i.w, i.h⟩))
      refine V_ret (evs ?_)
      first | exact ik0 _ (wh1 hc) | exact ik0 _ (wh2r ‹_› hc) | exact wh5 (wh4 ‹_› hc.1 hc.2)

end Go.S16

