import Derived.Test.YtnbeigcjhpldmaaGreatB5
import Derived.Test.YtnbeigcjhpldmaaGreatC0
import Derived.Test.YtnbeigcjhpldmaaGreatC1
set_option linter.unusedSimpArgs false
set_option linter.unusedVariables false
set_option linter.unusedSimpArgs false
set_option linter.unusedVariables false
namespace Go.S03
open Go.RowKit Go.Proofs Go.Eng Go.Rect
set_option maxHeartbeats 8000000 in
set_option maxRecDepth 100000 in
theorem combCommon_fn (a b : List Rw) (la : a.length ≤ 256) (lb : b.length ≤ 256) : Eng.Fn Tryz.prog 68 [.sl 2 (a.map rnC), .sl 2 (b.map rnC), .v (.func (.func 49) #[] #[])] (.own 65 2 ((combF (fun x y => (x && y)) a b).map rnC)) := by
  refine Eng.Fn.by (fn := Tryz.f68) 155 [.tmp 6] Tryz.func68 rfl Tryz.ntmps68 rfl (by simp) fun w0 G0 => ?_
  refine WA_seq (x := (fcd Tryz.f68 [0])) (y := (fcd Tryz.f68 [1])) ?_
  refine V_regionZ Γ Δ Θ [] [0, 1, 2, 6, 7, 9, 11, 12, 13, 14, 15, 16, 17, 18, 19, 20, 21, 32, 33, 34, 35, 54, 73, 88, 119, 133] (evs ?_)
  all_goals (try with_reducible (repeat' (first | apply And.intro | intro _)))
  all_goals (try (first | with_reducible refine wa_id ?_ | exact True.intro | omega | exact ssort_fx _ | exact compact_z _ | (rw [sortL_len]; done) | (rw [sortL_len]; omega) | exact keepCommon_fn _ _))
  refine WA_seq (x := (fcd Tryz.f68 [1, 0])) (y := (fcd Tryz.f68 [1, 1])) ?_
  refine V_regionZ Γ Δ Θ [] [0, 1, 2, 6, 7, 9, 11, 12, 13, 14, 15, 16, 17, 18, 19, 20, 21, 32, 33, 34, 35, 54, 73, 88, 119, 133] (evs ?_)
  all_goals (try with_reducible (repeat' (first | apply And.intro | intro _)))
  all_goals (try (first | with_reducible refine wa_id ?_ | exact True.intro | omega | exact ssort_fx _ | exact compact_z _ | (rw [sortL_len]; done) | (rw [sortL_len]; omega) | exact keepCommon_fn _ _))
  refine WA_seq (x := (fcd Tryz.f68 [1, 1, 0])) (y := (fcd Tryz.f68 [1, 1, 1])) ?_
  refine WA_seq (x := (fcd Tryz.f68 [1, 1, 0, 0])) (y := (fcd Tryz.f68 [1, 1, 0, 1])) ?_
  refine V_regionZ Γ Δ Θ [] [0, 1, 2, 6, 7, 9, 11, 12, 13, 14, 15, 16, 17, 18, 19, 20, 21, 32, 33, 34, 35, 54, 73, 88, 119, 133] (evs ?_)
  all_goals (try with_reducible (repeat' (first | apply And.intro | intro _)))
  all_goals (try (first | with_reducible refine wa_id ?_ | exact True.intro | omega | exact ssort_fx _ | exact compact_z _ | (rw [sortL_len]; done) | (rw [sortL_len]; omega) | exact keepCommon_fn _ _))
  refine WA_block (c := (fcd Tryz.f68 [1, 1, 0, 1, 0])) ?_
  refine V_loop (c := (fcd Tryz.f68 [1, 1, 0, 1, 0, 0])) (α := Nat) [7, 9, 20, 21] [9, 29, 30] (fun k => [(20, .dat (.i (k : Int))), (7, .vw 20000 0 (edR (a.take k)).length 1)]) (fun k => [(20000, some (true, .arr 3 1 ((edR (a.take k)).map iC)))]) (fun k => k ≤ a.length) (fun k => a.length - k) 0 [(20000, none)] ?_ (evs ?_) ?_
  · exact Nat.zero_le _
  · (try with_reducible (repeat' (first | apply And.intro | intro _)))
    all_goals (first | exact True.intro | omega | (first | rfl))
  · intro k hI
    refine WA_seq (x := (fcd Tryz.f68 [1, 1, 0, 1, 0, 0, 0])) (y := (fcd Tryz.f68 [1, 1, 0, 1, 0, 0, 1])) ?_
    refine V_regionZ Γ Δ Θ [] [0, 1, 2, 6, 7, 9, 11, 12, 13, 14, 15, 16, 17, 18, 19, 20, 21, 32, 33, 34, 35, 54, 73, 88, 119, 133] (evs ?_)
    all_goals (try with_reducible (repeat' (first | apply And.intro | intro _)))
    all_goals (try (first | with_reducible refine wa_id ?_ | exact True.intro | omega | exact ssort_fx _ | exact compact_z _ | (rw [sortL_len]; done) | (rw [sortL_len]; omega) | exact keepCommon_fn _ _))
    refine WA_seq (x := (fcd Tryz.f68 [1, 1, 0, 1, 0, 0, 1, 0])) (y := (fcd Tryz.f68 [1, 1, 0, 1, 0, 0, 1, 1])) ?_
    refine V_cond (evs ?_)
    refine ⟨fun hc => ?_, fun hc => ?_⟩
    · refine WA_skip ?_
      refine WA_seq (x := (fcd Tryz.f68 [1, 1, 0, 1, 0, 0, 1, 1, 0])) (y := (fcd Tryz.f68 [1, 1, 0, 1, 0, 0, 1, 1, 1])) ?_
      refine WA_block (c := (fcd Tryz.f68 [1, 1, 0, 1, 0, 0, 1, 1, 0, 0])) ?_
      refine WA_seq (x := (fcd Tryz.f68 [1, 1, 0, 1, 0, 0, 1, 1, 0, 0, 0])) (y := (fcd Tryz.f68 [1, 1, 0, 1, 0, 0, 1, 1, 0, 0, 1])) ?_
      refine V_regionZ Γ Δ Θ [] [0, 1, 2, 6, 7, 9, 11, 12, 13, 14, 15, 16, 17, 18, 19, 20, 21, 32, 33, 34, 35, 54, 73, 88, 119, 133] (evs ?_)
      all_goals (try with_reducible (repeat' (first | apply And.intro | intro _)))
      all_goals (try (first | with_reducible refine wa_id ?_ | exact True.intro | omega | exact ssort_fx _ | exact compact_z _ | (rw [sortL_len]; done) | (rw [sortL_len]; omega) | exact keepCommon_fn _ _))
      refine V_regionZ Γ Δ Θ [] [0, 1, 2, 6, 7, 9, 11, 12, 13, 14, 15, 16, 17, 18, 19, 20, 21, 32, 33, 34, 35, 54, 73, 88, 119, 133] (evs ?_)
      have hl := edR_len (a.take k)
      have hm := List.length_take (i := k) (l := a)
      (try simp (maxSteps := 10000000) (disch := omega) only [w64])
      all_goals (try with_reducible (repeat' (first | apply And.intro | intro _)))
      all_goals (try (first | with_reducible refine wa_id ?_ | exact True.intro | omega | exact ssort_fx _ | exact compact_z _ | (rw [sortL_len]; done) | (rw [sortL_len]; omega) | exact keepCommon_fn _ _))
      refine V_regionZ Γ Δ Θ [] [0, 1, 2, 6, 7, 9, 11, 12, 13, 14, 15, 16, 17, 18, 19, 20, 21, 32, 33, 34, 35, 54, 73, 88, 119, 133] (evs ?_)
      all_goals (try with_reducible (repeat' (first | apply And.intro | intro _)))
      all_goals (try (first | with_reducible refine wa_id ?_ | exact True.intro | omega | exact ssort_fx _ | exact compact_z _ | (rw [sortL_len]; done) | (rw [sortL_len]; omega) | exact keepCommon_fn _ _))
      refine V_next [(20000, some 30)] (k + 1) (evs ?_) ?_ ?_
      all_goals (try with_reducible (repeat' (first | apply And.intro | intro _)))
      all_goals (first | exact True.intro | omega | (first | exact w64l ‹(k : Int) < _› (show a.length ≤ 281474976710656 by omega) | (rw [edR_s (by omega), List.map_append]; rfl) | (rw [edR_s (by omega), List.length_append]; rfl)))
    · refine V_exit (evs ?_)
      refine WA_seq (x := (fcd Tryz.f68 [1, 1, 1, 0])) (y := (fcd Tryz.f68 [1, 1, 1, 1])) ?_
      refine WA_seq (x := (fcd Tryz.f68 [1, 1, 1, 0, 0])) (y := (fcd Tryz.f68 [1, 1, 1, 0, 1])) ?_
      refine V_regionZ Γ Δ Θ [] [0, 1, 2, 6, 7, 9, 11, 12, 13, 14, 15, 16, 17, 18, 19, 20, 21, 32, 33, 34, 35, 54, 73, 88, 119, 133] (evs ?_)
      all_goals (try with_reducible (repeat' (first | apply And.intro | intro _)))
      all_goals (try (first | with_reducible refine wa_id ?_ | exact True.intro | omega | exact ssort_fx _ | exact compact_z _ | (rw [sortL_len]; done) | (rw [sortL_len]; omega) | exact keepCommon_fn _ _))
      refine WA_block (c := (fcd Tryz.f68 [1, 1, 1, 0, 1, 0])) ?_
      refine V_loop (c := (fcd Tryz.f68 [1, 1, 1, 0, 1, 0, 0])) (α := Nat) [7, 11, 34, 35] [11, 43, 44, 20000] (fun m => [(34, .dat (.i (m : Int))), (7, .vw 20001 0 (edR2 a b m).length 1)]) (fun m => [(20001, some (true, .arr 3 1 ((edR2 a b m).map iC)))]) (fun m => m ≤ b.length) (fun m => b.length - m) 0 [(20001, some 20000)] ?_ (evs ?_) ?_
      · exact Nat.zero_le _
      · (try with_reducible (repeat' (first | apply And.intro | intro _)))
        all_goals (first | exact True.intro | omega | (first | rfl | (rw [edR2_0 hc]; done)))
      · intro m hI
        refine WA_seq (x := (fcd Tryz.f68 [1, 1, 1, 0, 1, 0, 0, 0])) (y := (fcd Tryz.f68 [1, 1, 1, 0, 1, 0, 0, 1])) ?_
        refine V_regionZ Γ Δ Θ [] [0, 1, 2, 6, 7, 9, 11, 12, 13, 14, 15, 16, 17, 18, 19, 20, 21, 32, 33, 34, 35, 54, 73, 88, 119, 133] (evs ?_)
        all_goals (try with_reducible (repeat' (first | apply And.intro | intro _)))
        all_goals (try (first | with_reducible refine wa_id ?_ | exact True.intro | omega | exact ssort_fx _ | exact compact_z _ | (rw [sortL_len]; done) | (rw [sortL_len]; omega) | exact keepCommon_fn _ _))
        refine WA_seq (x := (fcd Tryz.f68 [1, 1, 1, 0, 1, 0, 0, 1, 0])) (y := (fcd Tryz.f68 [1, 1, 1, 0, 1, 0, 0, 1, 1])) ?_
        refine V_cond (evs ?_)
        refine ⟨fun hc => ?_, fun hc => ?_⟩
        · refine WA_skip ?_
          refine WA_seq (x := (fcd Tryz.f68 [1, 1, 1, 0, 1, 0, 0, 1, 1, 0])) (y := (fcd Tryz.f68 [1, 1, 1, 0, 1, 0, 0, 1, 1, 1])) ?_
          refine WA_block (c := (fcd Tryz.f68 [1, 1, 1, 0, 1, 0, 0, 1, 1, 0, 0])) ?_
          refine WA_seq (x := (fcd Tryz.f68 [1, 1, 1, 0, 1, 0, 0, 1, 1, 0, 0, 0])) (y := (fcd Tryz.f68 [1, 1, 1, 0, 1, 0, 0, 1, 1, 0, 0, 1])) ?_
          refine V_regionZ Γ Δ Θ [] [0, 1, 2, 6, 7, 9, 11, 12, 13, 14, 15, 16, 17, 18, 19, 20, 21, 32, 33, 34, 35, 54, 73, 88, 119, 133] (evs ?_)
          all_goals (try with_reducible (repeat' (first | apply And.intro | intro _)))
          all_goals (try (first | with_reducible refine wa_id ?_ | exact True.intro | omega | exact ssort_fx _ | exact compact_z _ | (rw [sortL_len]; done) | (rw [sortL_len]; omega) | exact keepCommon_fn _ _))
          refine V_regionZ Γ Δ Θ [] [0, 1, 2, 6, 7, 9, 11, 12, 13, 14, 15, 16, 17, 18, 19, 20, 21, 32, 33, 34, 35, 54, 73, 88, 119, 133] (evs ?_)
          have hl := edR2_len a b m
          (try simp (maxSteps := 10000000) (disch := omega) only [w64])
          all_goals (try with_reducible (repeat' (first | apply And.intro | intro _)))
          all_goals (try (first | with_reducible refine wa_id ?_ | exact True.intro | omega | exact ssort_fx _ | exact compact_z _ | (rw [sortL_len]; done) | (rw [sortL_len]; omega) | exact keepCommon_fn _ _))
          refine V_regionZ Γ Δ Θ [] [0, 1, 2, 6, 7, 9, 11, 12, 13, 14, 15, 16, 17, 18, 19, 20, 21, 32, 33, 34, 35, 54, 73, 88, 119, 133] (evs ?_)
          all_goals (try with_reducible (repeat' (first | apply And.intro | intro _)))
          all_goals (try (first | with_reducible refine wa_id ?_ | exact True.intro | omega | exact ssort_fx _ | exact compact_z _ | (rw [sortL_len]; done) | (rw [sortL_len]; omega) | exact keepCommon_fn _ _))
          refine V_next [(20001, some 44)] (m + 1) (evs ?_) ?_ ?_
          all_goals (try with_reducible (repeat' (first | apply And.intro | intro _)))
          all_goals (first | exact True.intro | omega | (first | exact w64l ‹(m : Int) < _› (show b.length ≤ 281474976710656 by omega) | (rw [edR2_s ‹_›, List.map_append]; rfl) | (rw [edR2_s ‹_›, List.length_append]; rfl)))
        · refine V_exit (evs ?_)
          refine WA_seq (x := (fcd Tryz.f68 [1, 1, 1, 1, 0])) (y := (fcd Tryz.f68 [1, 1, 1, 1, 1])) ?_
          refine V_regionZ Γ Δ Θ [] [0, 1, 2, 6, 7, 9, 11, 12, 13, 14, 15, 16, 17, 18, 19, 20, 21, 32, 33, 34, 35, 54, 73, 88, 119, 133] (evs ?_)
          all_goals (try with_reducible (repeat' (first | apply And.intro | intro _)))
          all_goals (try (first | with_reducible refine wa_id ?_ | exact True.intro | omega | exact ssort_fx _ | exact compact_z _ | (rw [sortL_len]; done) | (rw [sortL_len]; omega) | exact keepCommon_fn _ _))
          refine WA_seq (x := (fcd Tryz.f68 [1, 1, 1, 1, 1, 0])) (y := (fcd Tryz.f68 [1, 1, 1, 1, 1, 1])) ?_
          refine V_regionZ Γ Δ Θ [] [0, 1, 2, 6, 7, 9, 11, 12, 13, 14, 15, 16, 17, 18, 19, 20, 21, 32, 33, 34, 35, 54, 73, 88, 119, 133] (evs ?_)
          all_goals (try with_reducible (repeat' (first | apply And.intro | intro _)))
          all_goals (try (first | with_reducible refine wa_id ?_ | exact True.intro | omega | exact ssort_fx _ | exact compact_z _ | (rw [sortL_len]; done) | (rw [sortL_len]; omega) | exact keepCommon_fn _ _))
          refine V_trim [(20001, (cmpL (sortL (edR2 a b m))).length)] (evs ?_)
          simp only [edR2_all hc]
          refine WA_seq (x := (fcd Tryz.f68 [1, 1, 1, 1, 1, 1, 0])) (y := (fcd Tryz.f68 [1, 1, 1, 1, 1, 1, 1])) ?_
          refine V_regionZ Γ Δ Θ [] [0, 1, 2, 6, 7, 9, 11, 12, 13, 14, 15, 16, 17, 18, 19, 20, 21, 32, 33, 34, 35, 54, 73, 88, 119, 133] (evs ?_)
          all_goals (try with_reducible (repeat' (first | apply And.intro | intro _)))
          all_goals (try (first | with_reducible refine wa_id ?_ | exact True.intro | omega | exact ssort_fx _ | exact compact_z _ | (rw [sortL_len]; done) | (rw [sortL_len]; omega) | exact keepCommon_fn _ _))
          refine WA_seq (x := (fcd Tryz.f68 [1, 1, 1, 1, 1, 1, 1, 0])) (y := (fcd Tryz.f68 [1, 1, 1, 1, 1, 1, 1, 1])) ?_
          refine V_regionZ Γ Δ Θ [] [0, 1, 2, 6, 7, 9, 11, 12, 13, 14, 15, 16, 17, 18, 19, 20, 21, 32, 33, 34, 35, 54, 73, 88, 119, 133] (evs ?_)
          all_goals (try with_reducible (repeat' (first | apply And.intro | intro _)))
          all_goals (try (first | with_reducible refine wa_id ?_ | exact True.intro | omega | exact ssort_fx _ | exact compact_z _ | (rw [sortL_len]; done) | (rw [sortL_len]; omega) | exact keepCommon_fn _ _))
          refine WA_seq (x := (fcd Tryz.f68 [1, 1, 1, 1, 1, 1, 1, 1, 0])) (y := (fcd Tryz.f68 [1, 1, 1, 1, 1, 1, 1, 1, 1])) ?_
          refine WA_seq (x := (fcd Tryz.f68 [1, 1, 1, 1, 1, 1, 1, 1, 0, 0])) (y := (fcd Tryz.f68 [1, 1, 1, 1, 1, 1, 1, 1, 0, 1])) ?_
          refine V_regionZ Γ Δ Θ [] [0, 1, 2, 6, 7, 9, 11, 12, 13, 14, 15, 16, 17, 18, 19, 20, 21, 32, 33, 34, 35, 54, 73, 88, 119, 133] (evs ?_)
          all_goals (try with_reducible (repeat' (first | apply And.intro | intro _)))
          all_goals (try (first | with_reducible refine wa_id ?_ | exact True.intro | omega | exact ssort_fx _ | exact compact_z _ | (rw [sortL_len]; done) | (rw [sortL_len]; omega) | exact keepCommon_fn _ _))
          refine WA_block (c := (fcd Tryz.f68 [1, 1, 1, 1, 1, 1, 1, 1, 0, 1, 0])) ?_
          refine V_loop (c := (fcd Tryz.f68 [1, 1, 1, 1, 1, 1, 1, 1, 0, 1, 0, 0])) (α := Nat) [12, 13, 14, 15, 16, 17, 54, 73, 88, 119, 133] [152, 153, 21800, 21801, 21802, 21803] (fun k => [(15, .dat (.i (k : Int))), (13, .dat (.i (twP a (colX a b) k : Int))), (14, .dat (.i (twP b (colX a b) k : Int))), (12, .vw 20002 0 (rnK (fun x => (atR a x && atR b x)) (colX a b) k).length 2)]) (fun k => [(20002, some (true, .arr 65 2 (((rnK (fun x => (atR a x && atR b x)) (colX a b) k)).map rnC)))]) (fun k => k ≤ (colX a b).length - 1) (fun k => (colX a b).length - 1 - k) 0 [(20002, none)] ?_ (evs ?_) ?_
          · exact Nat.zero_le _
          · (try with_reducible (repeat' (first | apply And.intro | intro _)))
            all_goals (first | exact True.intro | omega | (first | rfl))
          · intro k hI
            refine WA_seq (x := (fcd Tryz.f68 [1, 1, 1, 1, 1, 1, 1, 1, 0, 1, 0, 0, 0])) (y := (fcd Tryz.f68 [1, 1, 1, 1, 1, 1, 1, 1, 0, 1, 0, 0, 1])) ?_
            refine WA_seq (x := (fcd Tryz.f68 [1, 1, 1, 1, 1, 1, 1, 1, 0, 1, 0, 0, 0, 0])) (y := (fcd Tryz.f68 [1, 1, 1, 1, 1, 1, 1, 1, 0, 1, 0, 0, 0, 1])) ?_
            refine V_regionZ Γ Δ Θ [] [0, 1, 2, 6, 7, 9, 11, 12, 13, 14, 15, 16, 17, 18, 19, 20, 21, 32, 33, 34, 35, 54, 73, 88, 119, 133] (evs ?_)
            have hx := colX_len a b
            (try simp (maxSteps := 10000000) (disch := omega) only [w64])
            all_goals (try with_reducible (repeat' (first | apply And.intro | intro _)))
            all_goals (try (first | with_reducible refine wa_id ?_ | exact True.intro | omega | exact ssort_fx _ | exact compact_z _ | (rw [sortL_len]; done) | (rw [sortL_len]; omega) | exact keepCommon_fn _ _))
            refine V_cond (evs ?_)
            refine ⟨fun hc => ?_, fun hc => ?_⟩
            · refine WA_skip ?_
              refine WA_seq (x := (fcd Tryz.f68 [1, 1, 1, 1, 1, 1, 1, 1, 0, 1, 0, 0, 1, 0])) (y := (fcd Tryz.f68 [1, 1, 1, 1, 1, 1, 1, 1, 0, 1, 0, 0, 1, 1])) ?_
              refine WA_block (c := (fcd Tryz.f68 [1, 1, 1, 1, 1, 1, 1, 1, 0, 1, 0, 0, 1, 0, 0])) ?_
              refine WA_seq (x := (fcd Tryz.f68 [1, 1, 1, 1, 1, 1, 1, 1, 0, 1, 0, 0, 1, 0, 0, 0])) (y := (fcd Tryz.f68 [1, 1, 1, 1, 1, 1, 1, 1, 0, 1, 0, 0, 1, 0, 0, 1])) ?_
              refine V_regionZ Γ Δ Θ [] [0, 1, 2, 6, 7, 9, 11, 12, 13, 14, 15, 16, 17, 18, 19, 20, 21, 32, 33, 34, 35, 54, 73, 88, 119, 133] (evs ?_)
              have hx := colX_len a b
              have hz := rnK_len (fun x => (atR a x && atR b x)) (colX a b) k
              all_goals (try with_reducible (repeat' (first | apply And.intro | intro _)))
              all_goals (try (first | with_reducible refine wa_id ?_ | exact True.intro | omega | exact ssort_fx _ | exact compact_z _ | (rw [sortL_len]; done) | (rw [sortL_len]; omega) | exact keepCommon_fn _ _))
              refine WA_seq (x := (fcd Tryz.f68 [1, 1, 1, 1, 1, 1, 1, 1, 0, 1, 0, 0, 1, 0, 0, 1, 0])) (y := (fcd Tryz.f68 [1, 1, 1, 1, 1, 1, 1, 1, 0, 1, 0, 0, 1, 0, 0, 1, 1])) ?_
              refine WA_block (c := (fcd Tryz.f68 [1, 1, 1, 1, 1, 1, 1, 1, 0, 1, 0, 0, 1, 0, 0, 1, 0, 0])) ?_
              refine V_loop (c := (fcd Tryz.f68 [1, 1, 1, 1, 1, 1, 1, 1, 0, 1, 0, 0, 1, 0, 0, 1, 0, 0, 0])) (α := Nat) [13, 73] [] (fun i => [(13, .dat (.i (i : Int)))]) (fun i => []) (fun i => i ≤ twL a ((colX a b).getD k 0)) (fun i => twL a ((colX a b).getD k 0) - i) (twP a (colX a b) k) [] ?_ (evs ?_) ?_
              · exact twP_le (colX_asc a b) ‹_›
              · (try with_reducible (repeat' (first | apply And.intro | intro _)))
                all_goals (first | exact True.intro | omega | (first | rfl))
              · intro i hA
                refine WA_seq (x := (fcd Tryz.f68 [1, 1, 1, 1, 1, 1, 1, 1, 0, 1, 0, 0, 1, 0, 0, 1, 0, 0, 0, 0])) (y := (fcd Tryz.f68 [1, 1, 1, 1, 1, 1, 1, 1, 0, 1, 0, 0, 1, 0, 0, 1, 0, 0, 0, 1])) ?_
                refine WA_seq (x := (fcd Tryz.f68 [1, 1, 1, 1, 1, 1, 1, 1, 0, 1, 0, 0, 1, 0, 0, 1, 0, 0, 0, 0, 0])) (y := (fcd Tryz.f68 [1, 1, 1, 1, 1, 1, 1, 1, 0, 1, 0, 0, 1, 0, 0, 1, 0, 0, 0, 0, 1])) ?_
                refine V_regionZ Γ Δ Θ [] [0, 1, 2, 6, 7, 9, 11, 12, 13, 14, 15, 16, 17, 18, 19, 20, 21, 32, 33, 34, 35, 54, 73, 88, 119, 133] (evs ?_)
                all_goals (try with_reducible (repeat' (first | apply And.intro | intro _)))
                all_goals (try (first | with_reducible refine wa_id ?_ | exact True.intro | omega | exact ssort_fx _ | exact compact_z _ | (rw [sortL_len]; done) | (rw [sortL_len]; omega) | exact keepCommon_fn _ _))
                refine V_cond (evs ?_)
                refine ⟨fun hc => ?_, fun hc => ?_⟩
                · refine WA_skip ?_
                  refine WA_block (c := (fcd Tryz.f68 [1, 1, 1, 1, 1, 1, 1, 1, 0, 1, 0, 0, 1, 0, 0, 1, 0, 0, 0, 1, 0])) ?_
                  refine V_regionZ Γ Δ Θ [] [0, 1, 2, 6, 7, 9, 11, 12, 13, 14, 15, 16, 17, 18, 19, 20, 21, 32, 33, 34, 35, 54, 73, 88, 119, 133] (evs ?_)
                  all_goals (try with_reducible (repeat' (first | apply And.intro | intro _)))
                  all_goals (try (first | with_reducible refine wa_id ?_ | exact True.intro | omega | exact ssort_fx _ | exact compact_z _ | (rw [sortL_len]; done) | (rw [sortL_len]; omega) | exact keepCommon_fn _ _))
                  refine V_next [] (i + 1) (evs ?_) ?_ ?_
                  all_goals (try with_reducible (repeat' (first | apply And.intro | intro _)))
                  all_goals (first | exact True.intro | omega | (first | exact w64l (n := 256) (by omega) (by omega) | exact tw_ge' hA hc.1 hc.2 | (have := tw_ge' hA hc.1 hc.2; omega)))
                · refine V_exit (evs ?_)
                  refine WA_seq (x := (fcd Tryz.f68 [1, 1, 1, 1, 1, 1, 1, 1, 0, 1, 0, 0, 1, 0, 0, 1, 1, 0])) (y := (fcd Tryz.f68 [1, 1, 1, 1, 1, 1, 1, 1, 0, 1, 0, 0, 1, 0, 0, 1, 1, 1])) ?_
                  refine WA_block (c := (fcd Tryz.f68 [1, 1, 1, 1, 1, 1, 1, 1, 0, 1, 0, 0, 1, 0, 0, 1, 1, 0, 0])) ?_
                  refine V_loop (c := (fcd Tryz.f68 [1, 1, 1, 1, 1, 1, 1, 1, 0, 1, 0, 0, 1, 0, 0, 1, 1, 0, 0, 0])) (α := Nat) [14, 88] [] (fun j => [(14, .dat (.i (j : Int)))]) (fun j => []) (fun j => j ≤ twL b ((colX a b).getD k 0)) (fun j => twL b ((colX a b).getD k 0) - j) (twP b (colX a b) k) [] ?_ (evs ?_) ?_
                  · exact twP_le (colX_asc a b) ‹_›
                  · (try with_reducible (repeat' (first | apply And.intro | intro _)))
                    all_goals (first | exact True.intro | omega | (first | rfl))
                  · intro j hB
                    refine WA_seq (x := (fcd Tryz.f68 [1, 1, 1, 1, 1, 1, 1, 1, 0, 1, 0, 0, 1, 0, 0, 1, 1, 0, 0, 0, 0])) (y := (fcd Tryz.f68 [1, 1, 1, 1, 1, 1, 1, 1, 0, 1, 0, 0, 1, 0, 0, 1, 1, 0, 0, 0, 1])) ?_
                    refine WA_seq (x := (fcd Tryz.f68 [1, 1, 1, 1, 1, 1, 1, 1, 0, 1, 0, 0, 1, 0, 0, 1, 1, 0, 0, 0, 0, 0])) (y := (fcd Tryz.f68 [1, 1, 1, 1, 1, 1, 1, 1, 0, 1, 0, 0, 1, 0, 0, 1, 1, 0, 0, 0, 0, 1])) ?_
                    refine V_regionZ Γ Δ Θ [] [0, 1, 2, 6, 7, 9, 11, 12, 13, 14, 15, 16, 17, 18, 19, 20, 21, 32, 33, 34, 35, 54, 73, 88, 119, 133] (evs ?_)
                    all_goals (try with_reducible (repeat' (first | apply And.intro | intro _)))
                    all_goals (try (first | with_reducible refine wa_id ?_ | exact True.intro | omega | exact ssort_fx _ | exact compact_z _ | (rw [sortL_len]; done) | (rw [sortL_len]; omega) | exact keepCommon_fn _ _))
                    refine V_cond (evs ?_)
                    refine ⟨fun hc => ?_, fun hc => ?_⟩
                    · refine WA_skip ?_
                      refine WA_block (c := (fcd Tryz.f68 [1, 1, 1, 1, 1, 1, 1, 1, 0, 1, 0, 0, 1, 0, 0, 1, 1, 0, 0, 0, 1, 0])) ?_
                      refine V_regionZ Γ Δ Θ [] [0, 1, 2, 6, 7, 9, 11, 12, 13, 14, 15, 16, 17, 18, 19, 20, 21, 32, 33, 34, 35, 54, 73, 88, 119, 133] (evs ?_)
                      all_goals (try with_reducible (repeat' (first | apply And.intro | intro _)))
                      all_goals (try (first | with_reducible refine wa_id ?_ | exact True.intro | omega | exact ssort_fx _ | exact compact_z _ | (rw [sortL_len]; done) | (rw [sortL_len]; omega) | exact keepCommon_fn _ _))
                      refine V_next [] (j + 1) (evs ?_) ?_ ?_
                      all_goals (try with_reducible (repeat' (first | apply And.intro | intro _)))
                      all_goals (first | exact True.intro | omega | (first | exact w64l (n := 256) (by omega) (by omega) | exact tw_ge' hB hc.1 hc.2 | (have := tw_ge' hB hc.1 hc.2; omega)))
                    · refine V_exit (evs ?_)
                      refine WA_seq (x := (fcd Tryz.f68 [1, 1, 1, 1, 1, 1, 1, 1, 0, 1, 0, 0, 1, 0, 0, 1, 1, 1, 0])) (y := (fcd Tryz.f68 [1, 1, 1, 1, 1, 1, 1, 1, 0, 1, 0, 0, 1, 0, 0, 1, 1, 1, 1])) ?_
                      refine WA_seq (x := (fcd Tryz.f68 [1, 1, 1, 1, 1, 1, 1, 1, 0, 1, 0, 0, 1, 0, 0, 1, 1, 1, 0, 0])) (y := (fcd Tryz.f68 [1, 1, 1, 1, 1, 1, 1, 1, 0, 1, 0, 0, 1, 0, 0, 1, 1, 1, 0, 1])) ?_
                      refine V_draw Γ [] [0, 1, 2, 6, 7, 9, 11, 12, 13, 14, 15, 16, 17, 18, 19, 20, 21, 32, 33, 34, 35, 54, 73, 88, 119, 133] mixed (by kernel_rfl) (evs ?_)
                      have e1w := tw_eq2 hA ‹(decide ((i : Int) < _) && _) = false›
                      have e2w := tw_eq2 hB ‹(decide ((j : Int) < _) && _) = false›
                      subst e1w e2w
                      simp only [tw_atI]
                      all_goals (try with_reducible (repeat' (first | apply And.intro | intro _)))
                      all_goals (try (first | with_reducible refine wa_id ?_ | exact True.intro | omega | exact ssort_fx _ | exact compact_z _ | (rw [sortL_len]; done) | (rw [sortL_len]; omega) | exact keepCommon_fn _ _))
                      refine V_cond (evs ?_)
                      refine ⟨fun hc => ?_, fun hc => ?_⟩
                      · refine V_exit (evs ?_)
                        refine V_regionZ Γ Δ Θ [] [0, 1, 2, 6, 7, 9, 11, 12, 13, 14, 15, 16, 17, 18, 19, 20, 21, 32, 33, 34, 35, 54, 73, 88, 119, 133] (evs ?_)
                        all_goals (try with_reducible (repeat' (first | apply And.intro | intro _)))
                        all_goals (try (first | with_reducible refine wa_id ?_ | exact True.intro | omega | exact ssort_fx _ | exact compact_z _ | (rw [sortL_len]; done) | (rw [sortL_len]; omega) | exact keepCommon_fn _ _))
                        refine V_next [] (k + 1) (evs ?_) ?_ ?_
                        all_goals (try with_reducible (repeat' (first | apply And.intro | intro _)))
                        all_goals (first | exact True.intro | omega | (first | rfl | exact w64l (n := 2000) (by omega) (by omega) | exact (gkC (g := (fun x => (atR a x && atR b x))) (by simpa using hc)).1 | exact (gkC (g := (fun x => (atR a x && atR b x))) (by simpa using hc)).2 | exact (gkA (g := (fun x => (atR a x && atR b x))) (by simpa using hgT) hc).1 | exact (gkA (g := (fun x => (atR a x && atR b x))) (by simpa using hgT) hc).2 | exact (gkB (g := (fun x => (atR a x && atR b x))) (by simpa using hgT) hc).1 | exact (gkB (g := (fun x => (atR a x && atR b x))) (by simpa using hgT) hc).2))
                      · refine WA_skip ?_
                        refine WA_seq (x := (fcd Tryz.f68 [1, 1, 1, 1, 1, 1, 1, 1, 0, 1, 0, 0, 1, 0, 0, 1, 1, 1, 1, 0])) (y := (fcd Tryz.f68 [1, 1, 1, 1, 1, 1, 1, 1, 0, 1, 0, 0, 1, 0, 0, 1, 1, 1, 1, 1])) ?_
                        refine V_regionZ Γ Δ Θ [] [0, 1, 2, 6, 7, 9, 11, 12, 13, 14, 15, 16, 17, 18, 19, 20, 21, 32, 33, 34, 35, 54, 73, 88, 119, 133] (evs ?_)
                        have hgT := hc
                        all_goals (try with_reducible (repeat' (first | apply And.intro | intro _)))
                        all_goals (try (first | with_reducible refine wa_id ?_ | exact True.intro | omega | exact ssort_fx _ | exact compact_z _ | (rw [sortL_len]; done) | (rw [sortL_len]; omega) | exact keepCommon_fn _ _))
                        refine WA_seq (x := (fcd Tryz.f68 [1, 1, 1, 1, 1, 1, 1, 1, 0, 1, 0, 0, 1, 0, 0, 1, 1, 1, 1, 1, 0])) (y := (fcd Tryz.f68 [1, 1, 1, 1, 1, 1, 1, 1, 0, 1, 0, 0, 1, 0, 0, 1, 1, 1, 1, 1, 1])) ?_
                        refine V_regionZ Γ Δ Θ [] [0, 1, 2, 6, 7, 9, 11, 12, 13, 14, 15, 16, 17, 18, 19, 20, 21, 32, 33, 34, 35, 54, 73, 88, 119, 133] (evs ?_)
                        (try simp (maxSteps := 10000000) (disch := omega) only [w64])
                        all_goals (try with_reducible (repeat' (first | apply And.intro | intro _)))
                        all_goals (try (first | with_reducible refine wa_id ?_ | exact True.intro | omega | exact ssort_fx _ | exact compact_z _ | (rw [sortL_len]; done) | (rw [sortL_len]; omega) | exact keepCommon_fn _ _))
                        refine V_cond (evs ?_)
                        refine ⟨fun hc => ?_, fun hc => ?_⟩
                        · refine V_regionZ Γ Δ Θ [] [0, 1, 2, 6, 7, 9, 11, 12, 13, 14, 15, 16, 17, 18, 19, 20, 21, 32, 33, 34, 35, 54, 73, 88, 119, 133] (evs ?_)
                          (try simp (maxSteps := 10000000) (disch := omega) only [w64])
                          all_goals (try with_reducible (repeat' (first | apply And.intro | intro _)))
                          all_goals (try (first | with_reducible refine wa_id ?_ | exact True.intro | omega | exact ssort_fx _ | exact compact_z _ | (rw [sortL_len]; done) | (rw [sortL_len]; omega) | exact keepCommon_fn _ _))
                          refine V_regionZ Γ Δ Θ [] [0, 1, 2, 6, 7, 9, 11, 12, 13, 14, 15, 16, 17, 18, 19, 20, 21, 32, 33, 34, 35, 54, 73, 88, 119, 133] (evs ?_)
                          all_goals (try with_reducible (repeat' (first | apply And.intro | intro _)))
                          all_goals (try (first | with_reducible refine wa_id ?_ | exact True.intro | omega | exact ssort_fx _ | exact compact_z _ | (rw [sortL_len]; done) | (rw [sortL_len]; omega) | exact keepCommon_fn _ _))
                          refine V_next [] (k + 1) (evs ?_) ?_ ?_
                          all_goals (try with_reducible (repeat' (first | apply And.intro | intro _)))
                          all_goals (first | exact True.intro | omega | (first | rfl | exact w64l (n := 2000) (by omega) (by omega) | exact (gkC (g := (fun x => (atR a x && atR b x))) (by simpa using hc)).1 | exact (gkC (g := (fun x => (atR a x && atR b x))) (by simpa using hc)).2 | exact (gkA (g := (fun x => (atR a x && atR b x))) (by simpa using hgT) hc).1 | exact (gkA (g := (fun x => (atR a x && atR b x))) (by simpa using hgT) hc).2 | exact (gkB (g := (fun x => (atR a x && atR b x))) (by simpa using hgT) hc).1 | exact (gkB (g := (fun x => (atR a x && atR b x))) (by simpa using hgT) hc).2))
                        · refine V_regionZ Γ Δ Θ [] [0, 1, 2, 6, 7, 9, 11, 12, 13, 14, 15, 16, 17, 18, 19, 20, 21, 32, 33, 34, 35, 54, 73, 88, 119, 133] (evs ?_)
                          (try simp (maxSteps := 10000000) (disch := omega) only [w64])
                          all_goals (try with_reducible (repeat' (first | apply And.intro | intro _)))
                          all_goals (try (first | with_reducible refine wa_id ?_ | exact True.intro | omega | exact ssort_fx _ | exact compact_z _ | (rw [sortL_len]; done) | (rw [sortL_len]; omega) | exact keepCommon_fn _ _))
                          refine V_regionZ Γ Δ Θ [] [0, 1, 2, 6, 7, 9, 11, 12, 13, 14, 15, 16, 17, 18, 19, 20, 21, 32, 33, 34, 35, 54, 73, 88, 119, 133] (evs ?_)
                          all_goals (try with_reducible (repeat' (first | apply And.intro | intro _)))
                          all_goals (try (first | with_reducible refine wa_id ?_ | exact True.intro | omega | exact ssort_fx _ | exact compact_z _ | (rw [sortL_len]; done) | (rw [sortL_len]; omega) | exact keepCommon_fn _ _))
                          refine V_next [(20002, some 153)] (k + 1) (evs ?_) ?_ ?_
                          all_goals (try with_reducible (repeat' (first | apply And.intro | intro _)))
                          all_goals (first | exact True.intro | omega | (first | rfl | exact w64l (n := 2000) (by omega) (by omega) | exact (gkC (g := (fun x => (atR a x && atR b x))) (by simpa using hc)).1 | exact (gkC (g := (fun x => (atR a x && atR b x))) (by simpa using hc)).2 | exact (gkA (g := (fun x => (atR a x && atR b x))) (by simpa using hgT) hc).1 | exact (gkA (g := (fun x => (atR a x && atR b x))) (by simpa using hgT) hc).2 | exact (gkB (g := (fun x => (atR a x && atR b x))) (by simpa using hgT) hc).1 | exact (gkB (g := (fun x => (atR a x && atR b x))) (by simpa using hgT) hc).2))
            · refine V_exit (evs ?_)
              refine WA_seq (x := (fcd Tryz.f68 [1, 1, 1, 1, 1, 1, 1, 1, 1, 0])) (y := (fcd Tryz.f68 [1, 1, 1, 1, 1, 1, 1, 1, 1, 1])) ?_
              refine V_regionZ Γ Δ Θ [] [0, 1, 2, 6, 7, 9, 11, 12, 13, 14, 15, 16, 17, 18, 19, 20, 21, 32, 33, 34, 35, 54, 73, 88, 119, 133] (evs ?_)
              all_goals (try with_reducible (repeat' (first | apply And.intro | intro _)))
              all_goals (try (first | with_reducible refine wa_id ?_ | exact True.intro | omega | exact ssort_fx _ | exact compact_z _ | (rw [sortL_len]; done) | (rw [sortL_len]; omega) | exact keepCommon_fn _ _))
              refine V_ret (evs ?_)
              first | exact True.intro | rfl | exact congrArg (List.map rnC) (gk_all hI hc) | exact ⟨congrArg List.length (gk_all hI hc), congrArg (List.map rnC) (gk_all hI hc)⟩

end Go.S03

