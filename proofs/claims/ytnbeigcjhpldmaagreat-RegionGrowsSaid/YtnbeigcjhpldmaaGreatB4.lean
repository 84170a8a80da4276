import Derived.Test.YtnbeigcjhpldmaaGreatC0
import Derived.Test.YtnbeigcjhpldmaaGreatC1
set_option linter.unusedSimpArgs false
set_option linter.unusedVariables false
set_option linter.unusedSimpArgs false
set_option linter.unusedVariables false
namespace Go.S03
open Go.RowKit Go.Proofs Go.Eng Go.Rect
set_option maxHeartbeats 2000000 in
set_option maxRecDepth 100000 in
theorem row_fn (a : List Rc) (y : Int) (ha : Wd a) (la : a.length ≤ 256) : Eng.Fn Tryz.prog 69 [.sl 4 (a.map rcC), .i y] (.own 65 2 ((rowF a y).map rnC)) := by
  refine Eng.Fn.by (fn := Tryz.f69) 86 [.tmp 4] Tryz.func69 rfl Tryz.ntmps69 rfl (by simp) fun w0 G0 => ?_
  refine WA_seq (x := (fcd Tryz.f69 [0])) (y := (fcd Tryz.f69 [1])) ?_
  refine V_regionZ Γ Δ Θ [] [0, 1, 4, 5, 7, 8, 10, 11, 12, 13, 14, 15, 30, 45, 46, 47, 48, 65] (evs ?_)
  all_goals (try with_reducible (repeat' (first | apply And.intro | intro _)))
  all_goals (try (first | with_reducible refine wa_id ?_ | exact True.intro | omega | exact srtrw_fx _ | (rw [srtRw_len]; omega)))
  refine WA_seq (x := (fcd Tryz.f69 [1, 0])) (y := (fcd Tryz.f69 [1, 1])) ?_
  refine V_regionZ Γ Δ Θ [] [0, 1, 4, 5, 7, 8, 10, 11, 12, 13, 14, 15, 30, 45, 46, 47, 48, 65] (evs ?_)
  all_goals (try with_reducible (repeat' (first | apply And.intro | intro _)))
  all_goals (try (first | with_reducible refine wa_id ?_ | exact True.intro | omega | exact srtrw_fx _ | (rw [srtRw_len]; omega)))
  refine WA_seq (x := (fcd Tryz.f69 [1, 1, 0])) (y := (fcd Tryz.f69 [1, 1, 1])) ?_
  refine WA_seq (x := (fcd Tryz.f69 [1, 1, 0, 0])) (y := (fcd Tryz.f69 [1, 1, 0, 1])) ?_
  refine V_regionZ Γ Δ Θ [] [0, 1, 4, 5, 7, 8, 10, 11, 12, 13, 14, 15, 30, 45, 46, 47, 48, 65] (evs ?_)
  all_goals (try with_reducible (repeat' (first | apply And.intro | intro _)))
  all_goals (try (first | with_reducible refine wa_id ?_ | exact True.intro | omega | exact srtrw_fx _ | (rw [srtRw_len]; omega)))
  refine WA_block (c := (fcd Tryz.f69 [1, 1, 0, 1, 0])) ?_
  refine V_loop (c := (fcd Tryz.f69 [1, 1, 0, 1, 0, 0])) (α := Nat) [5, 7, 14, 15, 30] [7, 40, 41] (fun k => [(14, .dat (.i (k : Int))), (5, .vw 20000 0 (rowP (a.take k) y).length 2)]) (fun k => [(20000, some (true, .arr 65 2 (((rowP (a.take k) y)).map rnC)))]) (fun k => k ≤ a.length) (fun k => a.length - k) 0 [(20000, none)] ?_ (evs ?_) ?_
  · exact Nat.zero_le _
  · (try with_reducible (repeat' (first | apply And.intro | intro _)))
    all_goals (first | exact True.intro | omega | (first | rfl))
  · intro k hI
    refine WA_seq (x := (fcd Tryz.f69 [1, 1, 0, 1, 0, 0, 0])) (y := (fcd Tryz.f69 [1, 1, 0, 1, 0, 0, 1])) ?_
    refine V_regionZ Γ Δ Θ [] [0, 1, 4, 5, 7, 8, 10, 11, 12, 13, 14, 15, 30, 45, 46, 47, 48, 65] (evs ?_)
    all_goals (try with_reducible (repeat' (first | apply And.intro | intro _)))
    all_goals (try (first | with_reducible refine wa_id ?_ | exact True.intro | omega | exact srtrw_fx _ | (rw [srtRw_len]; omega)))
    refine WA_seq (x := (fcd Tryz.f69 [1, 1, 0, 1, 0, 0, 1, 0])) (y := (fcd Tryz.f69 [1, 1, 0, 1, 0, 0, 1, 1])) ?_
    refine V_cond (evs ?_)
    refine ⟨fun hc => ?_, fun hc => ?_⟩
    · refine WA_skip ?_
      refine WA_seq (x := (fcd Tryz.f69 [1, 1, 0, 1, 0, 0, 1, 1, 0])) (y := (fcd Tryz.f69 [1, 1, 0, 1, 0, 0, 1, 1, 1])) ?_
      refine WA_block (c := (fcd Tryz.f69 [1, 1, 0, 1, 0, 0, 1, 1, 0, 0])) ?_
      refine WA_seq (x := (fcd Tryz.f69 [1, 1, 0, 1, 0, 0, 1, 1, 0, 0, 0])) (y := (fcd Tryz.f69 [1, 1, 0, 1, 0, 0, 1, 1, 0, 0, 1])) ?_
      refine V_regionZ Γ Δ Θ [] [0, 1, 4, 5, 7, 8, 10, 11, 12, 13, 14, 15, 30, 45, 46, 47, 48, 65] (evs ?_)
      all_goals (try with_reducible (repeat' (first | apply And.intro | intro _)))
      all_goals (try (first | with_reducible refine wa_id ?_ | exact True.intro | omega | exact srtrw_fx _ | (rw [srtRw_len]; omega)))
      refine WA_seq (x := (fcd Tryz.f69 [1, 1, 0, 1, 0, 0, 1, 1, 0, 0, 1, 0])) (y := (fcd Tryz.f69 [1, 1, 0, 1, 0, 0, 1, 1, 0, 0, 1, 1])) ?_
      refine V_regionZ Γ Δ Θ [] [0, 1, 4, 5, 7, 8, 10, 11, 12, 13, 14, 15, 30, 45, 46, 47, 48, 65] (evs ?_)
      have hq := wd_at ha ‹(k : Int) < _›
      (try simp (maxSteps := 10000000) (disch := omega) only [w64])
      all_goals (try with_reducible (repeat' (first | apply And.intro | intro _)))
      all_goals (try (first | with_reducible refine wa_id ?_ | exact True.intro | omega | exact srtrw_fx _ | (rw [srtRw_len]; omega)))
      refine V_cond (evs ?_)
      refine ⟨fun hc => ?_, fun hc => ?_⟩
      · refine V_regionZ Γ Δ Θ [] [0, 1, 4, 5, 7, 8, 10, 11, 12, 13, 14, 15, 30, 45, 46, 47, 48, 65] (evs ?_)
        have hl := rowP_len (a.take k) y
        have hm := List.length_take (i := k) (l := a)
        (try simp (maxSteps := 10000000) (disch := omega) only [w64])
        all_goals (try with_reducible (repeat' (first | apply And.intro | intro _)))
        all_goals (try (first | with_reducible refine wa_id ?_ | exact True.intro | omega | exact srtrw_fx _ | (rw [srtRw_len]; omega)))
        refine V_regionZ Γ Δ Θ [] [0, 1, 4, 5, 7, 8, 10, 11, 12, 13, 14, 15, 30, 45, 46, 47, 48, 65] (evs ?_)
        all_goals (try with_reducible (repeat' (first | apply And.intro | intro _)))
        all_goals (try (first | with_reducible refine wa_id ?_ | exact True.intro | omega | exact srtrw_fx _ | (rw [srtRw_len]; omega)))
        refine V_next [(20000, some 41)] (k + 1) (evs ?_) ?_ ?_
        all_goals (try with_reducible (repeat' (first | apply And.intro | intro _)))
        all_goals (first | exact True.intro | omega | (first | exact w64l ‹(k : Int) < _› (show a.length ≤ 281474976710656 by omega) | (rw [rowP_s1 ‹_› (by omega), List.map_append]; rfl) | (rw [rowP_s1 ‹_› (by omega), List.length_append]; rfl) | (rw [rowP_s2 ‹_› (by simp only [Bool.and_eq_false_iff, decide_eq_false_iff_not] at hc; omega)]; done)))
      · refine WA_skip ?_
        refine V_regionZ Γ Δ Θ [] [0, 1, 4, 5, 7, 8, 10, 11, 12, 13, 14, 15, 30, 45, 46, 47, 48, 65] (evs ?_)
        all_goals (try with_reducible (repeat' (first | apply And.intro | intro _)))
        all_goals (try (first | with_reducible refine wa_id ?_ | exact True.intro | omega | exact srtrw_fx _ | (rw [srtRw_len]; omega)))
        refine V_next [] (k + 1) (evs ?_) ?_ ?_
        all_goals (try with_reducible (repeat' (first | apply And.intro | intro _)))
        all_goals (first | exact True.intro | omega | (first | exact w64l ‹(k : Int) < _› (show a.length ≤ 281474976710656 by omega) | (rw [rowP_s1 ‹_› (by omega), List.map_append]; rfl) | (rw [rowP_s1 ‹_› (by omega), List.length_append]; rfl) | (rw [rowP_s2 ‹_› (by simp only [Bool.and_eq_false_iff, decide_eq_false_iff_not] at hc; omega)]; done)))
    · refine V_exit (evs ?_)
      refine WA_seq (x := (fcd Tryz.f69 [1, 1, 1, 0])) (y := (fcd Tryz.f69 [1, 1, 1, 1])) ?_
      refine V_regionZ Γ Δ Θ [] [0, 1, 4, 5, 7, 8, 10, 11, 12, 13, 14, 15, 30, 45, 46, 47, 48, 65] (evs ?_)
      simp only [take_all hc]
      all_goals (try with_reducible (repeat' (first | apply And.intro | intro _)))
      all_goals (try (first | with_reducible refine wa_id ?_ | exact True.intro | omega | exact srtrw_fx _ | (rw [srtRw_len]; omega)))
      refine WA_seq (x := (fcd Tryz.f69 [1, 1, 1, 1, 0])) (y := (fcd Tryz.f69 [1, 1, 1, 1, 1])) ?_
      refine V_regionZ Γ Δ Θ [] [0, 1, 4, 5, 7, 8, 10, 11, 12, 13, 14, 15, 30, 45, 46, 47, 48, 65] (evs ?_)
      all_goals (try with_reducible (repeat' (first | apply And.intro | intro _)))
      all_goals (try (first | with_reducible refine wa_id ?_ | exact True.intro | omega | exact srtrw_fx _ | (rw [srtRw_len]; omega)))
      refine WA_seq (x := (fcd Tryz.f69 [1, 1, 1, 1, 1, 0])) (y := (fcd Tryz.f69 [1, 1, 1, 1, 1, 1])) ?_
      refine WA_seq (x := (fcd Tryz.f69 [1, 1, 1, 1, 1, 0, 0])) (y := (fcd Tryz.f69 [1, 1, 1, 1, 1, 0, 1])) ?_
      refine V_regionZ Γ Δ Θ [] [0, 1, 4, 5, 7, 8, 10, 11, 12, 13, 14, 15, 30, 45, 46, 47, 48, 65] (evs ?_)
      all_goals (try with_reducible (repeat' (first | apply And.intro | intro _)))
      all_goals (try (first | with_reducible refine wa_id ?_ | exact True.intro | omega | exact srtrw_fx _ | (rw [srtRw_len]; omega)))
      refine WA_block (c := (fcd Tryz.f69 [1, 1, 1, 1, 1, 0, 1, 0])) ?_
      refine V_loop (c := (fcd Tryz.f69 [1, 1, 1, 1, 1, 0, 1, 0, 0])) (α := Nat) [8, 10, 11, 47, 48, 65] [10, 82, 83] (fun m => [(47, .dat (.i (m : Int))), (8, .vw 20001 0 (mergeL [] ((srtRw (rowP a y)).take m)).length 2)]) (fun m => [(20001, some (true, .arr 65 2 (((mergeL [] ((srtRw (rowP a y)).take m))).map rnC)))]) (fun m => m ≤ (srtRw (rowP a y)).length) (fun m => (srtRw (rowP a y)).length - m) 0 [(20001, none)] ?_ (evs ?_) ?_
      · exact Nat.zero_le _
      · (try with_reducible (repeat' (first | apply And.intro | intro _)))
        all_goals (first | exact True.intro | omega | (first | rfl))
      · intro m hI
        refine WA_seq (x := (fcd Tryz.f69 [1, 1, 1, 1, 1, 0, 1, 0, 0, 0])) (y := (fcd Tryz.f69 [1, 1, 1, 1, 1, 0, 1, 0, 0, 1])) ?_
        refine V_regionZ Γ Δ Θ [] [0, 1, 4, 5, 7, 8, 10, 11, 12, 13, 14, 15, 30, 45, 46, 47, 48, 65] (evs ?_)
        have hl2 := rowP_len a y
        have hl3 := srtRw_len (rowP a y)
        all_goals (try with_reducible (repeat' (first | apply And.intro | intro _)))
        all_goals (try (first | with_reducible refine wa_id ?_ | exact True.intro | omega | exact srtrw_fx _ | (rw [srtRw_len]; omega)))
        refine WA_seq (x := (fcd Tryz.f69 [1, 1, 1, 1, 1, 0, 1, 0, 0, 1, 0])) (y := (fcd Tryz.f69 [1, 1, 1, 1, 1, 0, 1, 0, 0, 1, 1])) ?_
        refine V_cond (evs ?_)
        refine ⟨fun hc => ?_, fun hc => ?_⟩
        · refine WA_skip ?_
          refine WA_seq (x := (fcd Tryz.f69 [1, 1, 1, 1, 1, 0, 1, 0, 0, 1, 1, 0])) (y := (fcd Tryz.f69 [1, 1, 1, 1, 1, 0, 1, 0, 0, 1, 1, 1])) ?_
          refine WA_block (c := (fcd Tryz.f69 [1, 1, 1, 1, 1, 0, 1, 0, 0, 1, 1, 0, 0])) ?_
          refine WA_seq (x := (fcd Tryz.f69 [1, 1, 1, 1, 1, 0, 1, 0, 0, 1, 1, 0, 0, 0])) (y := (fcd Tryz.f69 [1, 1, 1, 1, 1, 0, 1, 0, 0, 1, 1, 0, 0, 1])) ?_
          refine V_regionZ Γ Δ Θ [] [0, 1, 4, 5, 7, 8, 10, 11, 12, 13, 14, 15, 30, 45, 46, 47, 48, 65] (evs ?_)
          all_goals (try with_reducible (repeat' (first | apply And.intro | intro _)))
          all_goals (try (first | with_reducible refine wa_id ?_ | exact True.intro | omega | exact srtrw_fx _ | (rw [srtRw_len]; omega)))
          refine WA_seq (x := (fcd Tryz.f69 [1, 1, 1, 1, 1, 0, 1, 0, 0, 1, 1, 0, 0, 1, 0])) (y := (fcd Tryz.f69 [1, 1, 1, 1, 1, 0, 1, 0, 0, 1, 1, 0, 0, 1, 1])) ?_
          refine V_regionZ Γ Δ Θ [] [0, 1, 4, 5, 7, 8, 10, 11, 12, 13, 14, 15, 30, 45, 46, 47, 48, 65] (evs ?_)
          all_goals (try with_reducible (repeat' (first | apply And.intro | intro _)))
          all_goals (try (first | with_reducible refine wa_id ?_ | exact True.intro | omega | exact srtrw_fx _ | (rw [srtRw_len]; omega)))
          refine WA_seq (x := (fcd Tryz.f69 [1, 1, 1, 1, 1, 0, 1, 0, 0, 1, 1, 0, 0, 1, 1, 0])) (y := (fcd Tryz.f69 [1, 1, 1, 1, 1, 0, 1, 0, 0, 1, 1, 0, 0, 1, 1, 1])) ?_
          refine V_draw Γ [] [0, 1, 4, 5, 7, 8, 10, 11, 12, 13, 14, 15, 30, 45, 46, 47, 48, 65] mixed (by kernel_rfl) (evs ?_)
          have hl := mg_len a y m
          (try simp (maxSteps := 10000000) (disch := omega) only [w64])
          all_goals (try with_reducible (repeat' (first | apply And.intro | intro _)))
          all_goals (try (first | with_reducible refine wa_id ?_ | exact True.intro | omega | exact srtrw_fx _ | (rw [srtRw_len]; omega)))
          refine V_cond (evs ?_)
          refine ⟨fun hc => ?_, fun hc => ?_⟩
          · refine V_draw Γ [] [0, 1, 4, 5, 7, 8, 10, 11, 12, 13, 14, 15, 30, 45, 46, 47, 48, 65] mixed (by kernel_rfl) (evs ?_)
            (try simp (maxSteps := 10000000) (disch := omega) only [w64])
            all_goals (try with_reducible (repeat' (first | apply And.intro | intro _)))
            all_goals (try (first | with_reducible refine wa_id ?_ | exact True.intro | omega | exact srtrw_fx _ | (rw [srtRw_len]; omega)))
            refine V_regionZ Γ Δ Θ [] [0, 1, 4, 5, 7, 8, 10, 11, 12, 13, 14, 15, 30, 45, 46, 47, 48, 65] (evs ?_)
            all_goals (try with_reducible (repeat' (first | apply And.intro | intro _)))
            all_goals (try (first | with_reducible refine wa_id ?_ | exact True.intro | omega | exact srtrw_fx _ | (rw [srtRw_len]; omega)))
            refine V_next [] (m + 1) (evs ?_) ?_ ?_
            all_goals (try with_reducible (repeat' (first | apply And.intro | intro _)))
            all_goals (first | exact True.intro | omega | (first | exact w64l (n := 256) (by omega) (by omega) | exact (mgA (by omega) hc).1 | exact (mgA (by omega) hc).2 | exact (mgB (by omega) hc).1 | exact (mgB (by omega) hc).2))
          · refine V_regionZ Γ Δ Θ [] [0, 1, 4, 5, 7, 8, 10, 11, 12, 13, 14, 15, 30, 45, 46, 47, 48, 65] (evs ?_)
            have hl := mg_len a y m
            all_goals (try with_reducible (repeat' (first | apply And.intro | intro _)))
            all_goals (try (first | with_reducible refine wa_id ?_ | exact True.intro | omega | exact srtrw_fx _ | (rw [srtRw_len]; omega)))
            refine V_regionZ Γ Δ Θ [] [0, 1, 4, 5, 7, 8, 10, 11, 12, 13, 14, 15, 30, 45, 46, 47, 48, 65] (evs ?_)
            all_goals (try with_reducible (repeat' (first | apply And.intro | intro _)))
            all_goals (try (first | with_reducible refine wa_id ?_ | exact True.intro | omega | exact srtrw_fx _ | (rw [srtRw_len]; omega)))
            refine V_next [(20001, some 83)] (m + 1) (evs ?_) ?_ ?_
            all_goals (try with_reducible (repeat' (first | apply And.intro | intro _)))
            all_goals (first | exact True.intro | omega | (first | exact w64l (n := 256) (by omega) (by omega) | exact (mgA (by omega) hc).1 | exact (mgA (by omega) hc).2 | exact (mgB (by omega) hc).1 | exact (mgB (by omega) hc).2))
        · refine V_exit (evs ?_)
          refine WA_seq (x := (fcd Tryz.f69 [1, 1, 1, 1, 1, 1, 0])) (y := (fcd Tryz.f69 [1, 1, 1, 1, 1, 1, 1])) ?_
          refine V_regionZ Γ Δ Θ [] [0, 1, 4, 5, 7, 8, 10, 11, 12, 13, 14, 15, 30, 45, 46, 47, 48, 65] (evs ?_)
          all_goals (try with_reducible (repeat' (first | apply And.intro | intro _)))
          all_goals (try (first | with_reducible refine wa_id ?_ | exact True.intro | omega | exact srtrw_fx _ | (rw [srtRw_len]; omega)))
          refine V_ret (evs ?_)
          first | rfl | exact congrArg (List.map rnC) (mg_all hc) | exact ⟨congrArg List.length (mg_all hc), congrArg (List.map rnC) (mg_all hc)⟩

end Go.S03

