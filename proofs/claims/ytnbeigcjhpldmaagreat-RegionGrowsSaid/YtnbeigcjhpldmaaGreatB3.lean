import Derived.Test.YtnbeigcjhpldmaaGreatC0
import Derived.Test.YtnbeigcjhpldmaaGreatC1
set_option linter.unusedSimpArgs false
set_option linter.unusedVariables false
set_option linter.unusedSimpArgs false
set_option linter.unusedVariables false
namespace Go.S03
open Go.RowKit Go.Proofs Go.Eng Go.Rect
set_option maxRecDepth 100000 in
theorem heights_fn (a b : List Rc) (ha : Wd a) (hb : Wd b) (la : a.length ≤ 256) (lb : b.length ≤ 256) : Eng.Fn Tryz.prog 67 [.sl 4 (a.map rcC), .sl 4 (b.map rcC)] (.own 3 1 ((hgtF a b).map iC)) := by
  refine Eng.Fn.by (fn := Tryz.f67) 48 [.tmp 4] Tryz.func67 rfl Tryz.ntmps67 rfl (by simp) fun w0 G0 => ?_
  refine WA_seq (x := (fcd Tryz.f67 [0])) (y := (fcd Tryz.f67 [1])) ?_
  refine V_regionZ Γ Δ Θ [] [0, 1, 4, 5, 7, 9, 10, 11, 12, 13, 27, 28, 29, 30] (evs ?_)
  all_goals (try with_reducible (repeat' (first | apply And.intro | intro _)))
  all_goals (try (first | with_reducible refine wa_id ?_ | exact True.intro | omega | exact ssort_fx _ | exact compact_z _ | (rw [sortL_len]; done) | (rw [sortL_len]; omega)))
  refine WA_seq (x := (fcd Tryz.f67 [1, 0])) (y := (fcd Tryz.f67 [1, 1])) ?_
  refine V_regionZ Γ Δ Θ [] [0, 1, 4, 5, 7, 9, 10, 11, 12, 13, 27, 28, 29, 30] (evs ?_)
  all_goals (try with_reducible (repeat' (first | apply And.intro | intro _)))
  all_goals (try (first | with_reducible refine wa_id ?_ | exact True.intro | omega | exact ssort_fx _ | exact compact_z _ | (rw [sortL_len]; done) | (rw [sortL_len]; omega)))
  refine WA_seq (x := (fcd Tryz.f67 [1, 1, 0])) (y := (fcd Tryz.f67 [1, 1, 1])) ?_
  refine WA_seq (x := (fcd Tryz.f67 [1, 1, 0, 0])) (y := (fcd Tryz.f67 [1, 1, 0, 1])) ?_
  refine V_regionZ Γ Δ Θ [] [0, 1, 4, 5, 7, 9, 10, 11, 12, 13, 27, 28, 29, 30] (evs ?_)
  all_goals (try with_reducible (repeat' (first | apply And.intro | intro _)))
  all_goals (try (first | with_reducible refine wa_id ?_ | exact True.intro | omega | exact ssort_fx _ | exact compact_z _ | (rw [sortL_len]; done) | (rw [sortL_len]; omega)))
  refine WA_block (c := (fcd Tryz.f67 [1, 1, 0, 1, 0])) ?_
  refine V_loop (c := (fcd Tryz.f67 [1, 1, 0, 1, 0, 0])) (α := Nat) [5, 7, 12, 13] [7, 24, 25] (fun k => [(12, .dat (.i (k : Int))), (5, .vw 20000 0 (edY (a.take k)).length 1)]) (fun k => [(20000, some (true, .arr 3 1 ((edY (a.take k)).map iC)))]) (fun k => k ≤ a.length) (fun k => a.length - k) 0 [(20000, none)] ?_ (evs ?_) ?_
  · exact Nat.zero_le _
  · (try with_reducible (repeat' (first | apply And.intro | intro _)))
    all_goals (first | exact True.intro | omega | (first | rfl))
  · intro k hI
    refine WA_seq (x := (fcd Tryz.f67 [1, 1, 0, 1, 0, 0, 0])) (y := (fcd Tryz.f67 [1, 1, 0, 1, 0, 0, 1])) ?_
    refine V_regionZ Γ Δ Θ [] [0, 1, 4, 5, 7, 9, 10, 11, 12, 13, 27, 28, 29, 30] (evs ?_)
    all_goals (try with_reducible (repeat' (first | apply And.intro | intro _)))
    all_goals (try (first | with_reducible refine wa_id ?_ | exact True.intro | omega | exact ssort_fx _ | exact compact_z _ | (rw [sortL_len]; done) | (rw [sortL_len]; omega)))
    refine WA_seq (x := (fcd Tryz.f67 [1, 1, 0, 1, 0, 0, 1, 0])) (y := (fcd Tryz.f67 [1, 1, 0, 1, 0, 0, 1, 1])) ?_
    refine V_cond (evs ?_)
    refine ⟨fun hc => ?_, fun hc => ?_⟩
    · refine WA_skip ?_
      refine WA_seq (x := (fcd Tryz.f67 [1, 1, 0, 1, 0, 0, 1, 1, 0])) (y := (fcd Tryz.f67 [1, 1, 0, 1, 0, 0, 1, 1, 1])) ?_
      refine WA_block (c := (fcd Tryz.f67 [1, 1, 0, 1, 0, 0, 1, 1, 0, 0])) ?_
      refine WA_seq (x := (fcd Tryz.f67 [1, 1, 0, 1, 0, 0, 1, 1, 0, 0, 0])) (y := (fcd Tryz.f67 [1, 1, 0, 1, 0, 0, 1, 1, 0, 0, 1])) ?_
      refine V_regionZ Γ Δ Θ [] [0, 1, 4, 5, 7, 9, 10, 11, 12, 13, 27, 28, 29, 30] (evs ?_)
      all_goals (try with_reducible (repeat' (first | apply And.intro | intro _)))
      all_goals (try (first | with_reducible refine wa_id ?_ | exact True.intro | omega | exact ssort_fx _ | exact compact_z _ | (rw [sortL_len]; done) | (rw [sortL_len]; omega)))
      refine V_regionZ Γ Δ Θ [] [0, 1, 4, 5, 7, 9, 10, 11, 12, 13, 27, 28, 29, 30] (evs ?_)
      have hq := wd_at ha ‹(k : Int) < _›
      have hl := edY_len (a.take k)
      have hm := List.length_take (i := k) (l := a)
      (try simp (maxSteps := 10000000) (disch := omega) only [w64])
      all_goals (try with_reducible (repeat' (first | apply And.intro | intro _)))
      all_goals (try (first | with_reducible refine wa_id ?_ | exact True.intro | omega | exact ssort_fx _ | exact compact_z _ | (rw [sortL_len]; done) | (rw [sortL_len]; omega)))
      refine V_regionZ Γ Δ Θ [] [0, 1, 4, 5, 7, 9, 10, 11, 12, 13, 27, 28, 29, 30] (evs ?_)
      all_goals (try with_reducible (repeat' (first | apply And.intro | intro _)))
      all_goals (try (first | with_reducible refine wa_id ?_ | exact True.intro | omega | exact ssort_fx _ | exact compact_z _ | (rw [sortL_len]; done) | (rw [sortL_len]; omega)))
      refine V_next [(20000, some 25)] (k + 1) (evs ?_) ?_ ?_
      all_goals (try with_reducible (repeat' (first | apply And.intro | intro _)))
      all_goals (first | exact True.intro | omega | (first | exact w64l ‹(k : Int) < _› (show a.length ≤ 281474976710656 by omega) | (rw [edY_s (by omega), List.map_append]; rfl) | (rw [edY_s (by omega), List.length_append]; rfl)))
    · refine V_exit (evs ?_)
      refine WA_seq (x := (fcd Tryz.f67 [1, 1, 1, 0])) (y := (fcd Tryz.f67 [1, 1, 1, 1])) ?_
      refine WA_seq (x := (fcd Tryz.f67 [1, 1, 1, 0, 0])) (y := (fcd Tryz.f67 [1, 1, 1, 0, 1])) ?_
      refine V_regionZ Γ Δ Θ [] [0, 1, 4, 5, 7, 9, 10, 11, 12, 13, 27, 28, 29, 30] (evs ?_)
      all_goals (try with_reducible (repeat' (first | apply And.intro | intro _)))
      all_goals (try (first | with_reducible refine wa_id ?_ | exact True.intro | omega | exact ssort_fx _ | exact compact_z _ | (rw [sortL_len]; done) | (rw [sortL_len]; omega)))
      refine WA_block (c := (fcd Tryz.f67 [1, 1, 1, 0, 1, 0])) ?_
      refine V_loop (c := (fcd Tryz.f67 [1, 1, 1, 0, 1, 0, 0])) (α := Nat) [5, 9, 29, 30] [9, 41, 42, 20000] (fun m => [(29, .dat (.i (m : Int))), (5, .vw 20001 0 (edY2 a b m).length 1)]) (fun m => [(20001, some (true, .arr 3 1 ((edY2 a b m).map iC)))]) (fun m => m ≤ b.length) (fun m => b.length - m) 0 [(20001, some 20000)] ?_ (evs ?_) ?_
      · exact Nat.zero_le _
      · (try with_reducible (repeat' (first | apply And.intro | intro _)))
        all_goals (first | exact True.intro | omega | (first | rfl | (rw [edY2_0 hc]; done)))
      · intro m hI
        refine WA_seq (x := (fcd Tryz.f67 [1, 1, 1, 0, 1, 0, 0, 0])) (y := (fcd Tryz.f67 [1, 1, 1, 0, 1, 0, 0, 1])) ?_
        refine V_regionZ Γ Δ Θ [] [0, 1, 4, 5, 7, 9, 10, 11, 12, 13, 27, 28, 29, 30] (evs ?_)
        all_goals (try with_reducible (repeat' (first | apply And.intro | intro _)))
        all_goals (try (first | with_reducible refine wa_id ?_ | exact True.intro | omega | exact ssort_fx _ | exact compact_z _ | (rw [sortL_len]; done) | (rw [sortL_len]; omega)))
        refine WA_seq (x := (fcd Tryz.f67 [1, 1, 1, 0, 1, 0, 0, 1, 0])) (y := (fcd Tryz.f67 [1, 1, 1, 0, 1, 0, 0, 1, 1])) ?_
        refine V_cond (evs ?_)
        refine ⟨fun hc => ?_, fun hc => ?_⟩
        · refine WA_skip ?_
          refine WA_seq (x := (fcd Tryz.f67 [1, 1, 1, 0, 1, 0, 0, 1, 1, 0])) (y := (fcd Tryz.f67 [1, 1, 1, 0, 1, 0, 0, 1, 1, 1])) ?_
          refine WA_block (c := (fcd Tryz.f67 [1, 1, 1, 0, 1, 0, 0, 1, 1, 0, 0])) ?_
          refine WA_seq (x := (fcd Tryz.f67 [1, 1, 1, 0, 1, 0, 0, 1, 1, 0, 0, 0])) (y := (fcd Tryz.f67 [1, 1, 1, 0, 1, 0, 0, 1, 1, 0, 0, 1])) ?_
          refine V_regionZ Γ Δ Θ [] [0, 1, 4, 5, 7, 9, 10, 11, 12, 13, 27, 28, 29, 30] (evs ?_)
          all_goals (try with_reducible (repeat' (first | apply And.intro | intro _)))
          all_goals (try (first | with_reducible refine wa_id ?_ | exact True.intro | omega | exact ssort_fx _ | exact compact_z _ | (rw [sortL_len]; done) | (rw [sortL_len]; omega)))
          refine V_regionZ Γ Δ Θ [] [0, 1, 4, 5, 7, 9, 10, 11, 12, 13, 27, 28, 29, 30] (evs ?_)
          have hq := wd_at hb ‹(m : Int) < _›
          have hl := edY2_len a b m
          (try simp (maxSteps := 10000000) (disch := omega) only [w64])
          all_goals (try with_reducible (repeat' (first | apply And.intro | intro _)))
          all_goals (try (first | with_reducible refine wa_id ?_ | exact True.intro | omega | exact ssort_fx _ | exact compact_z _ | (rw [sortL_len]; done) | (rw [sortL_len]; omega)))
          refine V_regionZ Γ Δ Θ [] [0, 1, 4, 5, 7, 9, 10, 11, 12, 13, 27, 28, 29, 30] (evs ?_)
          all_goals (try with_reducible (repeat' (first | apply And.intro | intro _)))
          all_goals (try (first | with_reducible refine wa_id ?_ | exact True.intro | omega | exact ssort_fx _ | exact compact_z _ | (rw [sortL_len]; done) | (rw [sortL_len]; omega)))
          refine V_next [(20001, some 42)] (m + 1) (evs ?_) ?_ ?_
          all_goals (try with_reducible (repeat' (first | apply And.intro | intro _)))
          all_goals (first | exact True.intro | omega | (first | exact w64l ‹(m : Int) < _› (show b.length ≤ 281474976710656 by omega) | (rw [edY2_s ‹_›, List.map_append]; rfl) | (rw [edY2_s ‹_›, List.length_append]; rfl)))
        · refine V_exit (evs ?_)
          refine WA_seq (x := (fcd Tryz.f67 [1, 1, 1, 1, 0])) (y := (fcd Tryz.f67 [1, 1, 1, 1, 1])) ?_
          refine V_regionZ Γ Δ Θ [] [0, 1, 4, 5, 7, 9, 10, 11, 12, 13, 27, 28, 29, 30] (evs ?_)
          all_goals (try with_reducible (repeat' (first | apply And.intro | intro _)))
          all_goals (try (first | with_reducible refine wa_id ?_ | exact True.intro | omega | exact ssort_fx _ | exact compact_z _ | (rw [sortL_len]; done) | (rw [sortL_len]; omega)))
          refine WA_seq (x := (fcd Tryz.f67 [1, 1, 1, 1, 1, 0])) (y := (fcd Tryz.f67 [1, 1, 1, 1, 1, 1])) ?_
          refine V_regionZ Γ Δ Θ [] [0, 1, 4, 5, 7, 9, 10, 11, 12, 13, 27, 28, 29, 30] (evs ?_)
          all_goals (try with_reducible (repeat' (first | apply And.intro | intro _)))
          all_goals (try (first | with_reducible refine wa_id ?_ | exact True.intro | omega | exact ssort_fx _ | exact compact_z _ | (rw [sortL_len]; done) | (rw [sortL_len]; omega)))
          refine V_trim [(20001, (cmpL (sortL (edY2 a b m))).length)] (evs ?_)
          simp only [edY2_all hc]
          refine V_ret (evs ?_)
          first | exact True.intro | rfl

end Go.S03

