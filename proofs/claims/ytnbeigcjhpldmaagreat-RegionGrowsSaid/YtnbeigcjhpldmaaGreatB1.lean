import Derived.Test.YtnbeigcjhpldmaaGreatA1
set_option linter.unusedSimpArgs false
set_option linter.unusedVariables false
set_option linter.unusedSimpArgs false
set_option linter.unusedVariables false
namespace Go.S03
open Go.RowKit Go.Proofs Go.Eng Go.Rect
theorem els_fn (a : List Rc) : Eng.Fn Tryz.prog 10 [.sl 4 (a.map rcC)] (.own 34 4 ((els a).map rcC)) := by
  refine Eng.Fn.by (fn := Tryz.f10) 25 [.tmp 2] Tryz.func10 rfl Tryz.ntmps10 rfl (by simp) fun w0 G0 => ?_
  refine WA_seq (x := (fcd Tryz.f10 [0])) (y := (fcd Tryz.f10 [1])) ?_
  refine V_regionX Γ Δ [] [0, 2, 3, 5, 10, 11, 12, 13, 18] (evs ?_)
  all_goals (try with_reducible (repeat' (first | apply And.intro | intro _)))
  all_goals (try (first | with_reducible refine wa_id ?_ | exact True.intro | omega))
  refine WA_seq (x := (fcd Tryz.f10 [1, 0])) (y := (fcd Tryz.f10 [1, 1])) ?_
  refine V_regionX Γ Δ [] [0, 2, 3, 5, 10, 11, 12, 13, 18] (evs ?_)
  all_goals (try with_reducible (repeat' (first | apply And.intro | intro _)))
  all_goals (try (first | with_reducible refine wa_id ?_ | exact True.intro | omega))
  refine WA_seq (x := (fcd Tryz.f10 [1, 1, 0])) (y := (fcd Tryz.f10 [1, 1, 1])) ?_
  refine WA_seq (x := (fcd Tryz.f10 [1, 1, 0, 0])) (y := (fcd Tryz.f10 [1, 1, 0, 1])) ?_
  refine V_regionX Γ Δ [] [0, 2, 3, 5, 10, 11, 12, 13, 18] (evs ?_)
  all_goals (try with_reducible (repeat' (first | apply And.intro | intro _)))
  all_goals (try (first | with_reducible refine wa_id ?_ | exact True.intro | omega))
  refine WA_block (c := (fcd Tryz.f10 [1, 1, 0, 1, 0])) ?_
  refine V_loop (c := (fcd Tryz.f10 [1, 1, 0, 1, 0, 0])) (α := Nat) [3, 5, 12, 13, 18] [5, 21, 22, 11700, 11701, 11702, 11703] (fun k => [(12, .dat (.i (k : Int))), (3, .vw 20000 0 (pl (tkM a) k).length 4)]) (fun k => [(20000, some (true, .arr 34 4 ((pl (tkM a) k).map rcC)))]) (fun k => k ≤ (tkM a).length) (fun k => (tkM a).length - k) 0 [(20000, none)] ?_ (evs ?_) ?_
  · exact Nat.zero_le _
  · (try with_reducible (repeat' (first | apply And.intro | intro _)))
    all_goals (first | exact True.intro | omega | (first | rfl))
  · intro k hI
    refine WA_seq (x := (fcd Tryz.f10 [1, 1, 0, 1, 0, 0, 0])) (y := (fcd Tryz.f10 [1, 1, 0, 1, 0, 0, 1])) ?_
    refine V_regionX Γ Δ [] [0, 2, 3, 5, 10, 11, 12, 13, 18] (evs ?_)
    all_goals (try with_reducible (repeat' (first | apply And.intro | intro _)))
    all_goals (try (first | with_reducible refine wa_id ?_ | exact True.intro | omega))
    refine WA_seq (x := (fcd Tryz.f10 [1, 1, 0, 1, 0, 0, 1, 0])) (y := (fcd Tryz.f10 [1, 1, 0, 1, 0, 0, 1, 1])) ?_
    refine V_cond (evs ?_)
    refine ⟨fun hc => ?_, fun hc => ?_⟩
    · refine WA_skip ?_
      refine WA_seq (x := (fcd Tryz.f10 [1, 1, 0, 1, 0, 0, 1, 1, 0])) (y := (fcd Tryz.f10 [1, 1, 0, 1, 0, 0, 1, 1, 1])) ?_
      refine WA_block (c := (fcd Tryz.f10 [1, 1, 0, 1, 0, 0, 1, 1, 0, 0])) ?_
      refine WA_seq (x := (fcd Tryz.f10 [1, 1, 0, 1, 0, 0, 1, 1, 0, 0, 0])) (y := (fcd Tryz.f10 [1, 1, 0, 1, 0, 0, 1, 1, 0, 0, 1])) ?_
      refine V_regionX Γ Δ [] [0, 2, 3, 5, 10, 11, 12, 13, 18] (evs ?_)
      all_goals (try with_reducible (repeat' (first | apply And.intro | intro _)))
      all_goals (try (first | with_reducible refine wa_id ?_ | exact True.intro | omega))
      refine WA_seq (x := (fcd Tryz.f10 [1, 1, 0, 1, 0, 0, 1, 1, 0, 0, 1, 0])) (y := (fcd Tryz.f10 [1, 1, 0, 1, 0, 0, 1, 1, 0, 0, 1, 1])) ?_
      refine V_regionX Γ Δ [] [0, 2, 3, 5, 10, 11, 12, 13, 18] (evs ?_)
      all_goals (try with_reducible (repeat' (first | apply And.intro | intro _)))
      all_goals (try (first | with_reducible refine wa_id ?_ | exact True.intro | exact empty_fn _ | omega))
      refine V_cond (evs ?_)
      refine ⟨fun hc => ?_, fun hc => ?_⟩
      · refine V_regionX Γ Δ [] [0, 2, 3, 5, 10, 11, 12, 13, 18] (evs ?_)
        have hq := pl_len (tkM a) k
        have hm := tkM_len a
        all_goals (try with_reducible (repeat' (first | apply And.intro | intro _)))
        all_goals (try (first | with_reducible refine wa_id ?_ | exact True.intro | omega))
        refine V_regionX Γ Δ [] [0, 2, 3, 5, 10, 11, 12, 13, 18] (evs ?_)
        all_goals (try with_reducible (repeat' (first | apply And.intro | intro _)))
        all_goals (try (first | with_reducible refine wa_id ?_ | exact True.intro | omega))
        refine V_next [(20000, some 22)] (k + 1) (evs ?_) ?_ ?_
        all_goals (try with_reducible (repeat' (first | apply And.intro | intro _)))
        all_goals (first | exact True.intro | omega | (first | exact w64l (n := 256) (by have := tkM_len a; omega) (by omega) | (rw [pl_y ‹_› hc]; done) | (rw [pl_n ‹_› hc, List.map_append]; rfl) | (rw [pl_n ‹_› hc, List.length_append]; rfl)))
      · refine WA_skip ?_
        refine V_regionX Γ Δ [] [0, 2, 3, 5, 10, 11, 12, 13, 18] (evs ?_)
        all_goals (try with_reducible (repeat' (first | apply And.intro | intro _)))
        all_goals (try (first | with_reducible refine wa_id ?_ | exact True.intro | omega))
        refine V_next [] (k + 1) (evs ?_) ?_ ?_
        all_goals (try with_reducible (repeat' (first | apply And.intro | intro _)))
        all_goals (first | exact True.intro | omega | (first | exact w64l (n := 256) (by have := tkM_len a; omega) (by omega) | (rw [pl_y ‹_› hc]; done) | (rw [pl_n ‹_› hc, List.map_append]; rfl) | (rw [pl_n ‹_› hc, List.length_append]; rfl)))
    · refine V_exit (evs ?_)
      refine WA_seq (x := (fcd Tryz.f10 [1, 1, 1, 0])) (y := (fcd Tryz.f10 [1, 1, 1, 1])) ?_
      refine V_regionX Γ Δ [] [0, 2, 3, 5, 10, 11, 12, 13, 18] (evs ?_)
      all_goals (try with_reducible (repeat' (first | apply And.intro | intro _)))
      all_goals (try (first | with_reducible refine wa_id ?_ | exact True.intro | omega))
      refine V_ret (evs ?_)
      first | rfl | (rw [pl_end hI hc]; done) | exact ⟨congrArg List.length (pl_end hI hc), congrArg _ (pl_end hI hc)⟩

end Go.S03

