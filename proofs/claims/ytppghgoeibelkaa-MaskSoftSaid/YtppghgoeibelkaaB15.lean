import Derived.Test.YtppghgoeibelkaaLE
import Derived.Test.YtppghgoeibelkaaB3
set_option linter.unusedSimpArgs false
set_option linter.unusedVariables false
namespace Go.S23
open Go.RowKit Go.Proofs Go.Eng Go.Rect
set_option maxHeartbeats 8000000 in
set_option maxRecDepth 100000 in
/-- imageeditor/imageeditorref23.Grow -/
theorem rgw_fn (m : Mk) (n : Int) : Eng.Fn Try.prog 27 [mkD m, .i n] (.tup [.agg [.dat (.i (gwR m n).w), .dat (.i (gwR m n).h), .own 3 1 ((gwR m n).v.map iC)], .dat (.i (gwE m n))]) := by
  refine Eng.Fn.by (fn := Try.f27) 134 [.cell 4 24, .tmp 5] Try.func27 rfl Try.ntmps27 rfl (by simp) fun w0 => ?_
  refine WA_seq (x := (fcd Try.f27 [0])) (y := (fcd Try.f27 [1])) ?_
  refine V_regionX Γ Δ [130] [0, 1, 2, 4, 5, 6, 7, 8, 9, 10, 11, 12, 13, 17, 25, 39, 45, 56, 63, 104, 106] (evs ?_)
  all_goals (try with_reducible (repeat' (first | apply And.intro | intro _)))
  all_goals (try (first | with_reducible refine wa_id ?_ | exact True.intro | omega | (rw [tab_len]; omega)))
  refine WA_seq (x := (fcd Try.f27 [1, 0])) (y := (fcd Try.f27 [1, 1])) ?_
  refine WA_seq (x := (fcd Try.f27 [1, 0, 0])) (y := (fcd Try.f27 [1, 0, 1])) ?_
  refine V_regionX Γ Δ [130] [0, 1, 2, 4, 5, 6, 7, 8, 9, 10, 11, 12, 13, 17, 25, 39, 45, 56, 63, 104, 106] (evs ?_)
  all_goals (try with_reducible (repeat' (first | apply And.intro | intro _)))
  all_goals (try (first | with_reducible refine wa_id ?_ | exact True.intro | exact rmcheck_fn ⟨_, _, _⟩ | omega | (rw [tab_len]; omega)))
  refine WA_seq (x := (fcd Try.f27 [1, 0, 1, 0])) (y := (fcd Try.f27 [1, 0, 1, 1])) ?_
  refine V_regionX Γ Δ [130] [0, 1, 2, 4, 5, 6, 7, 8, 9, 10, 11, 12, 13, 17, 25, 39, 45, 56, 63, 104, 106] (evs ?_)
  all_goals (try with_reducible (repeat' (first | apply And.intro | intro _)))
  all_goals (try (first | with_reducible refine wa_id ?_ | exact True.intro | omega | (rw [tab_len]; omega)))
  refine V_cond (evs ?_)
  refine ⟨fun hc => ?_, fun hc => ?_⟩
  · refine WA_seq (x := (fcd Try.f27 [1, 0, 1, 1, 0, 0])) (y := (fcd Try.f27 [1, 0, 1, 1, 0, 1])) ?_
    refine V_regionX Γ Δ [130] [0, 1, 2, 4, 5, 6, 7, 8, 9, 10, 11, 12, 13, 17, 25, 39, 45, 56, 63, 104, 106] (evs ?_)
    all_goals (try with_reducible (repeat' (first | apply And.intro | intro _)))
    all_goals (try (first | with_reducible refine wa_id ?_ | exact True.intro | omega | (rw [tab_len]; omega)))
    refine V_ret (evs ?_)
    first | exact bk0 _ (gw1 hc) | exact bk0 _ (gw2 ‹_› hc) | (rw [fall hY hc]; exact bk _ (gw3 hm hn)) | (rw [yall hY hc]; exact bk _ (gw3 hm hn))
  · refine WA_skip ?_
    refine WA_seq (x := (fcd Try.f27 [1, 1, 0])) (y := (fcd Try.f27 [1, 1, 1])) ?_
    refine WA_seq (x := (fcd Try.f27 [1, 1, 0, 0])) (y := (fcd Try.f27 [1, 1, 0, 1])) ?_
    refine V_regionX Γ Δ [130] [0, 1, 2, 4, 5, 6, 7, 8, 9, 10, 11, 12, 13, 17, 25, 39, 45, 56, 63, 104, 106] (evs ?_)
    all_goals (try with_reducible (repeat' (first | apply And.intro | intro _)))
    all_goals (try (first | with_reducible refine wa_id ?_ | exact True.intro | omega | (rw [tab_len]; omega)))
    refine V_cond (evs ?_)
    refine ⟨fun hc => ?_, fun hc => ?_⟩
    · refine WA_seq (x := (fcd Try.f27 [1, 1, 0, 1, 0, 0])) (y := (fcd Try.f27 [1, 1, 0, 1, 0, 1])) ?_
      refine V_regionX Γ Δ [130] [0, 1, 2, 4, 5, 6, 7, 8, 9, 10, 11, 12, 13, 17, 25, 39, 45, 56, 63, 104, 106] (evs ?_)
      all_goals (try with_reducible (repeat' (first | apply And.intro | intro _)))
      all_goals (try (first | with_reducible refine wa_id ?_ | exact True.intro | omega | (rw [tab_len]; omega)))
      refine V_ret (evs ?_)
      first | exact bk0 _ (gw1 hc) | exact bk0 _ (gw2 ‹_› hc) | (rw [fall hY hc]; exact bk _ (gw3 hm hn)) | (rw [yall hY hc]; exact bk _ (gw3 hm hn))
    · refine WA_skip ?_
      refine WA_seq (x := (fcd Try.f27 [1, 1, 1, 0])) (y := (fcd Try.f27 [1, 1, 1, 1])) ?_
      refine V_regionX Γ Δ [130] [0, 1, 2, 4, 5, 6, 7, 8, 9, 10, 11, 12, 13, 17, 25, 39, 45, 56, 63, 104, 106] (evs ?_)
      have hm := ‹mchkE m = 0›
      have hq := mchk0 hm
      have hz := hq.1
      have hz2 := hz
      unfold Z0 at hz2
      have hnb := nn_bd hz
      have hln := hq.2.2.1
      have hn := hc
      all_goals (try with_reducible (repeat' (first | apply And.intro | intro _)))
      all_goals (try (first | with_reducible refine wa_id ?_ | exact True.intro | omega | (rw [tab_len]; omega)))
      refine WA_seq (x := (fcd Try.f27 [1, 1, 1, 1, 0])) (y := (fcd Try.f27 [1, 1, 1, 1, 1])) ?_
      refine V_regionX Γ Δ [130] [0, 1, 2, 4, 5, 6, 7, 8, 9, 10, 11, 12, 13, 17, 25, 39, 45, 56, 63, 104, 106] (evs ?_)
      simp (maxSteps := 10000000) (disch := omega) only [w64]
      simp only [mx_abs0]
      all_goals (try with_reducible (repeat' (first | apply And.intro | intro _)))
      all_goals (try (first | with_reducible refine wa_id ?_ | exact True.intro | omega | (rw [tab_len]; omega)))
      refine WA_seq (x := (fcd Try.f27 [1, 1, 1, 1, 1, 0])) (y := (fcd Try.f27 [1, 1, 1, 1, 1, 1])) ?_
      refine WA_seq (x := (fcd Try.f27 [1, 1, 1, 1, 1, 0, 0])) (y := (fcd Try.f27 [1, 1, 1, 1, 1, 0, 1])) ?_
      refine V_regionX Γ Δ [130] [0, 1, 2, 4, 5, 6, 7, 8, 9, 10, 11, 12, 13, 17, 25, 39, 45, 56, 63, 104, 106] (evs ?_)
      all_goals (try with_reducible (repeat' (first | apply And.intro | intro _)))
      all_goals (try (first | with_reducible refine wa_id ?_ | exact True.intro | omega | (rw [tab_len]; omega)))
      refine WA_block (c := (fcd Try.f27 [1, 1, 1, 1, 1, 0, 1, 0])) ?_
      refine V_loop (c := (fcd Try.f27 [1, 1, 1, 1, 1, 0, 1, 0, 0])) (α := Nat) [9, 10, 11, 12, 13, 39, 45, 56, 63, 104, 106] [7, 130, 131, 15100, 15101, 15102, 15103, 21500, 21501, 21502, 21503, 22500, 22501, 22502, 22503] (fun y => [(9, .dat (.i (y : Int)))]) (fun y => [(20000, some (true, .arr 3 1 ((tab (y * m.w.toNat) (gF m.w.toNat (gwF m n))).map iC))), (7, some (true, .box 24 [.dat (.i m.w), .dat (.i m.h), .vw 20000 0 (y * m.w.toNat) 1]))]) (fun y => y ≤ m.h.toNat) (fun y => m.h.toNat - y) 0 [(20000, none)] ?_ (evs ?_) ?_
      · exact Nat.zero_le _
      · (try with_reducible (repeat' (first | apply And.intro | intro _)))
        all_goals (first | exact True.intro | omega | (first | rfl | (simp [tab]; done)))
      · intro y hY
        refine WA_seq (x := (fcd Try.f27 [1, 1, 1, 1, 1, 0, 1, 0, 0, 0])) (y := (fcd Try.f27 [1, 1, 1, 1, 1, 0, 1, 0, 0, 1])) ?_
        refine WA_seq (x := (fcd Try.f27 [1, 1, 1, 1, 1, 0, 1, 0, 0, 0, 0])) (y := (fcd Try.f27 [1, 1, 1, 1, 1, 0, 1, 0, 0, 0, 1])) ?_
        refine V_regionX Γ Δ [130] [0, 1, 2, 4, 5, 6, 7, 8, 9, 10, 11, 12, 13, 17, 25, 39, 45, 56, 63, 104, 106] (evs ?_)
        all_goals (try with_reducible (repeat' (first | apply And.intro | intro _)))
        all_goals (try (first | with_reducible refine wa_id ?_ | exact True.intro | omega | (rw [tab_len]; omega)))
        refine V_cond (evs ?_)
        refine ⟨fun hc => ?_, fun hc => ?_⟩
        · refine WA_skip ?_
          refine WA_seq (x := (fcd Try.f27 [1, 1, 1, 1, 1, 0, 1, 0, 0, 1, 0])) (y := (fcd Try.f27 [1, 1, 1, 1, 1, 0, 1, 0, 0, 1, 1])) ?_
          refine WA_block (c := (fcd Try.f27 [1, 1, 1, 1, 1, 0, 1, 0, 0, 1, 0, 0])) ?_
          refine WA_seq (x := (fcd Try.f27 [1, 1, 1, 1, 1, 0, 1, 0, 0, 1, 0, 0, 0])) (y := (fcd Try.f27 [1, 1, 1, 1, 1, 0, 1, 0, 0, 1, 0, 0, 1])) ?_
          refine V_regionX Γ Δ [130] [0, 1, 2, 4, 5, 6, 7, 8, 9, 10, 11, 12, 13, 17, 25, 39, 45, 56, 63, 104, 106] (evs ?_)
          all_goals (try with_reducible (repeat' (first | apply And.intro | intro _)))
          all_goals (try (first | with_reducible refine wa_id ?_ | exact True.intro | omega | (rw [tab_len]; omega)))
          refine WA_block (c := (fcd Try.f27 [1, 1, 1, 1, 1, 0, 1, 0, 0, 1, 0, 0, 1, 0])) ?_
          refine V_loop (c := (fcd Try.f27 [1, 1, 1, 1, 1, 0, 1, 0, 0, 1, 0, 0, 1, 0, 0])) (α := Nat) [10, 11, 12, 13, 45, 56, 63, 104, 106] [7, 130, 131, 15100, 15101, 15102, 15103, 20000, 21500, 21501, 21502, 21503, 22500, 22501, 22502, 22503] (fun x => [(10, .dat (.i (x : Int)))]) (fun x => [(20001, some (true, .arr 3 1 ((tab (y * m.w.toNat + x) (gF m.w.toNat (gwF m n))).map iC))), (7, some (true, .box 24 [.dat (.i m.w), .dat (.i m.h), .vw 20001 0 (y * m.w.toNat + x) 1]))]) (fun x => x ≤ m.w.toNat) (fun x => m.w.toNat - x) 0 [(20001, some 20000)] ?_ (evs ?_) ?_
          · exact Nat.zero_le _
          · (try with_reducible (repeat' (first | apply And.intro | intro _)))
            all_goals (first | exact True.intro | omega | (first | rfl | (simp [tab]; done)))
          · intro x hX
            refine WA_seq (x := (fcd Try.f27 [1, 1, 1, 1, 1, 0, 1, 0, 0, 1, 0, 0, 1, 0, 0, 0])) (y := (fcd Try.f27 [1, 1, 1, 1, 1, 0, 1, 0, 0, 1, 0, 0, 1, 0, 0, 1])) ?_
            refine WA_seq (x := (fcd Try.f27 [1, 1, 1, 1, 1, 0, 1, 0, 0, 1, 0, 0, 1, 0, 0, 0, 0])) (y := (fcd Try.f27 [1, 1, 1, 1, 1, 0, 1, 0, 0, 1, 0, 0, 1, 0, 0, 0, 1])) ?_
            refine V_regionX Γ Δ [130] [0, 1, 2, 4, 5, 6, 7, 8, 9, 10, 11, 12, 13, 17, 25, 39, 45, 56, 63, 104, 106] (evs ?_)
            all_goals (try with_reducible (repeat' (first | apply And.intro | intro _)))
            all_goals (try (first | with_reducible refine wa_id ?_ | exact True.intro | omega | (rw [tab_len]; omega)))
            refine V_cond (evs ?_)
            refine ⟨fun hc => ?_, fun hc => ?_⟩
            · refine WA_skip ?_
              refine WA_seq (x := (fcd Try.f27 [1, 1, 1, 1, 1, 0, 1, 0, 0, 1, 0, 0, 1, 0, 0, 1, 0])) (y := (fcd Try.f27 [1, 1, 1, 1, 1, 0, 1, 0, 0, 1, 0, 0, 1, 0, 0, 1, 1])) ?_
              refine WA_block (c := (fcd Try.f27 [1, 1, 1, 1, 1, 0, 1, 0, 0, 1, 0, 0, 1, 0, 0, 1, 0, 0])) ?_
              refine WA_seq (x := (fcd Try.f27 [1, 1, 1, 1, 1, 0, 1, 0, 0, 1, 0, 0, 1, 0, 0, 1, 0, 0, 0])) (y := (fcd Try.f27 [1, 1, 1, 1, 1, 0, 1, 0, 0, 1, 0, 0, 1, 0, 0, 1, 0, 0, 1])) ?_
              refine V_regionX Γ Δ [130] [0, 1, 2, 4, 5, 6, 7, 8, 9, 10, 11, 12, 13, 17, 25, 39, 45, 56, 63, 104, 106] (evs ?_)
              have hxy : (y : Int) < m.h ∧ (x : Int) < m.w := ⟨‹_›, ‹_›⟩
              all_goals (try with_reducible (repeat' (first | apply And.intro | intro _)))
              all_goals (try (first | with_reducible refine wa_id ?_ | exact True.intro | exact pick_fn ⟨_, _, _⟩ _ _ hm | omega | (rw [tab_len]; omega)))
              refine WA_seq (x := (fcd Try.f27 [1, 1, 1, 1, 1, 0, 1, 0, 0, 1, 0, 0, 1, 0, 0, 1, 0, 0, 1, 0])) (y := (fcd Try.f27 [1, 1, 1, 1, 1, 0, 1, 0, 0, 1, 0, 0, 1, 0, 0, 1, 0, 0, 1, 1])) ?_
              refine WA_seq (x := (fcd Try.f27 [1, 1, 1, 1, 1, 0, 1, 0, 0, 1, 0, 0, 1, 0, 0, 1, 0, 0, 1, 0, 0])) (y := (fcd Try.f27 [1, 1, 1, 1, 1, 0, 1, 0, 0, 1, 0, 0, 1, 0, 0, 1, 0, 0, 1, 0, 1])) ?_
              refine V_regionX Γ Δ [130] [0, 1, 2, 4, 5, 6, 7, 8, 9, 10, 11, 12, 13, 17, 25, 39, 45, 56, 63, 104, 106] (evs ?_)
              simp (maxSteps := 10000000) (disch := omega) only [w64]
              simp only [Int.zero_sub]
              all_goals (try with_reducible (repeat' (first | apply And.intro | intro _)))
              all_goals (try (first | with_reducible refine wa_id ?_ | exact True.intro | omega | (rw [tab_len]; omega)))
              refine WA_block (c := (fcd Try.f27 [1, 1, 1, 1, 1, 0, 1, 0, 0, 1, 0, 0, 1, 0, 0, 1, 0, 0, 1, 0, 1, 0])) ?_
              refine V_loop (c := (fcd Try.f27 [1, 1, 1, 1, 1, 0, 1, 0, 0, 1, 0, 0, 1, 0, 0, 1, 0, 0, 1, 0, 1, 0, 0])) (α := Int) [11, 12, 13, 56, 63, 104, 106] [21500, 21501, 21502, 21503, 22500, 22501, 22502, 22503] (fun j => [(12, .dat (.i j)), (11, .dat (.i (growK m (x : Int) (y : Int) n n.natAbs (j + n.natAbs).toNat 0)))]) (fun j => []) (fun j => -(n.natAbs : Int) ≤ j ∧ j ≤ (n.natAbs : Int) + 1) (fun j => ((n.natAbs : Int) + 1 - j).toNat) (-(n.natAbs : Int)) [] ?_ (evs ?_) ?_
              · omega
              · (try with_reducible (repeat' (first | apply And.intro | intro _)))
                all_goals (first | exact True.intro | omega | (first | exact gr_0 hxy.1 hxy.2 | rfl))
              · intro j hJ
                refine WA_seq (x := (fcd Try.f27 [1, 1, 1, 1, 1, 0, 1, 0, 0, 1, 0, 0, 1, 0, 0, 1, 0, 0, 1, 0, 1, 0, 0, 0])) (y := (fcd Try.f27 [1, 1, 1, 1, 1, 0, 1, 0, 0, 1, 0, 0, 1, 0, 0, 1, 0, 0, 1, 0, 1, 0, 0, 1])) ?_
                refine WA_seq (x := (fcd Try.f27 [1, 1, 1, 1, 1, 0, 1, 0, 0, 1, 0, 0, 1, 0, 0, 1, 0, 0, 1, 0, 1, 0, 0, 0, 0])) (y := (fcd Try.f27 [1, 1, 1, 1, 1, 0, 1, 0, 0, 1, 0, 0, 1, 0, 0, 1, 0, 0, 1, 0, 1, 0, 0, 0, 1])) ?_
                refine V_regionX Γ Δ [130] [0, 1, 2, 4, 5, 6, 7, 8, 9, 10, 11, 12, 13, 17, 25, 39, 45, 56, 63, 104, 106] (evs ?_)
                all_goals (try with_reducible (repeat' (first | apply And.intro | intro _)))
                all_goals (try (first | with_reducible refine wa_id ?_ | exact True.intro | omega | (rw [tab_len]; omega)))
                refine V_cond (evs ?_)
                refine ⟨fun hc => ?_, fun hc => ?_⟩
                · refine WA_skip ?_
                  refine WA_seq (x := (fcd Try.f27 [1, 1, 1, 1, 1, 0, 1, 0, 0, 1, 0, 0, 1, 0, 0, 1, 0, 0, 1, 0, 1, 0, 0, 1, 0])) (y := (fcd Try.f27 [1, 1, 1, 1, 1, 0, 1, 0, 0, 1, 0, 0, 1, 0, 0, 1, 0, 0, 1, 0, 1, 0, 0, 1, 1])) ?_
                  refine WA_block (c := (fcd Try.f27 [1, 1, 1, 1, 1, 0, 1, 0, 0, 1, 0, 0, 1, 0, 0, 1, 0, 0, 1, 0, 1, 0, 0, 1, 0, 0])) ?_
                  refine WA_seq (x := (fcd Try.f27 [1, 1, 1, 1, 1, 0, 1, 0, 0, 1, 0, 0, 1, 0, 0, 1, 0, 0, 1, 0, 1, 0, 0, 1, 0, 0, 0])) (y := (fcd Try.f27 [1, 1, 1, 1, 1, 0, 1, 0, 0, 1, 0, 0, 1, 0, 0, 1, 0, 0, 1, 0, 1, 0, 0, 1, 0, 0, 1])) ?_
                  refine V_regionX Γ Δ [130] [0, 1, 2, 4, 5, 6, 7, 8, 9, 10, 11, 12, 13, 17, 25, 39, 45, 56, 63, 104, 106] (evs ?_)
                  simp (maxSteps := 10000000) (disch := omega) only [w64]
                  simp only [Int.zero_sub]
                  all_goals (try with_reducible (repeat' (first | apply And.intro | intro _)))
                  all_goals (try (first | with_reducible refine wa_id ?_ | exact True.intro | omega | (rw [tab_len]; omega)))
                  refine WA_block (c := (fcd Try.f27 [1, 1, 1, 1, 1, 0, 1, 0, 0, 1, 0, 0, 1, 0, 0, 1, 0, 0, 1, 0, 1, 0, 0, 1, 0, 0, 1, 0])) ?_
                  refine V_loop (c := (fcd Try.f27 [1, 1, 1, 1, 1, 0, 1, 0, 0, 1, 0, 0, 1, 0, 0, 1, 0, 0, 1, 0, 1, 0, 0, 1, 0, 0, 1, 0, 0])) (α := Int) [11, 13, 63, 104, 106] [21500, 21501, 21502, 21503, 22500, 22501, 22502, 22503] (fun i => [(13, .dat (.i i)), (11, .dat (.i (gK m (x : Int) (y : Int) n j i)))]) (fun i => []) (fun i => -(n.natAbs : Int) ≤ i ∧ i ≤ (n.natAbs : Int) + 1) (fun i => ((n.natAbs : Int) + 1 - i).toNat) (-(n.natAbs : Int)) [] ?_ (evs ?_) ?_
                  · omega
                  · (try with_reducible (repeat' (first | apply And.intro | intro _)))
                    all_goals (first | exact True.intro | omega | (first | exact gr_i0 | rfl))
                  · intro i hI
                    refine WA_seq (x := (fcd Try.f27 [1, 1, 1, 1, 1, 0, 1, 0, 0, 1, 0, 0, 1, 0, 0, 1, 0, 0, 1, 0, 1, 0, 0, 1, 0, 0, 1, 0, 0, 0])) (y := (fcd Try.f27 [1, 1, 1, 1, 1, 0, 1, 0, 0, 1, 0, 0, 1, 0, 0, 1, 0, 0, 1, 0, 1, 0, 0, 1, 0, 0, 1, 0, 0, 1])) ?_
                    refine WA_seq (x := (fcd Try.f27 [1, 1, 1, 1, 1, 0, 1, 0, 0, 1, 0, 0, 1, 0, 0, 1, 0, 0, 1, 0, 1, 0, 0, 1, 0, 0, 1, 0, 0, 0, 0])) (y := (fcd Try.f27 [1, 1, 1, 1, 1, 0, 1, 0, 0, 1, 0, 0, 1, 0, 0, 1, 0, 0, 1, 0, 1, 0, 0, 1, 0, 0, 1, 0, 0, 0, 1])) ?_
                    refine V_regionX Γ Δ [130] [0, 1, 2, 4, 5, 6, 7, 8, 9, 10, 11, 12, 13, 17, 25, 39, 45, 56, 63, 104, 106] (evs ?_)
                    all_goals (try with_reducible (repeat' (first | apply And.intro | intro _)))
                    all_goals (try (first | with_reducible refine wa_id ?_ | exact True.intro | omega | (rw [tab_len]; omega)))
                    refine V_cond (evs ?_)
                    refine ⟨fun hc => ?_, fun hc => ?_⟩
                    · refine WA_skip ?_
                      refine WA_seq (x := (fcd Try.f27 [1, 1, 1, 1, 1, 0, 1, 0, 0, 1, 0, 0, 1, 0, 0, 1, 0, 0, 1, 0, 1, 0, 0, 1, 0, 0, 1, 0, 0, 1, 0])) (y := (fcd Try.f27 [1, 1, 1, 1, 1, 0, 1, 0, 0, 1, 0, 0, 1, 0, 0, 1, 0, 0, 1, 0, 1, 0, 0, 1, 0, 0, 1, 0, 0, 1, 1])) ?_
                      refine WA_block (c := (fcd Try.f27 [1, 1, 1, 1, 1, 0, 1, 0, 0, 1, 0, 0, 1, 0, 0, 1, 0, 0, 1, 0, 1, 0, 0, 1, 0, 0, 1, 0, 0, 1, 0, 0])) ?_
                      refine WA_seq (x := (fcd Try.f27 [1, 1, 1, 1, 1, 0, 1, 0, 0, 1, 0, 0, 1, 0, 0, 1, 0, 0, 1, 0, 1, 0, 0, 1, 0, 0, 1, 0, 0, 1, 0, 0, 0])) (y := (fcd Try.f27 [1, 1, 1, 1, 1, 0, 1, 0, 0, 1, 0, 0, 1, 0, 0, 1, 0, 0, 1, 0, 1, 0, 0, 1, 0, 0, 1, 0, 0, 1, 0, 0, 1])) ?_
                      refine WA_seq (x := (fcd Try.f27 [1, 1, 1, 1, 1, 0, 1, 0, 0, 1, 0, 0, 1, 0, 0, 1, 0, 0, 1, 0, 1, 0, 0, 1, 0, 0, 1, 0, 0, 1, 0, 0, 0, 0])) (y := (fcd Try.f27 [1, 1, 1, 1, 1, 0, 1, 0, 0, 1, 0, 0, 1, 0, 0, 1, 0, 0, 1, 0, 1, 0, 0, 1, 0, 0, 1, 0, 0, 1, 0, 0, 0, 1])) ?_
                      refine V_regionX Γ Δ [130] [0, 1, 2, 4, 5, 6, 7, 8, 9, 10, 11, 12, 13, 17, 25, 39, 45, 56, 63, 104, 106] (evs ?_)
                      have hq1 := sq_b (i := i) (by omega)
                      have hq2 := sq_b (i := j) (by omega)
                      have hq3 := sq_b (i := n) (by omega)
                      simp (maxSteps := 10000000) (disch := omega) only [w64]
                      all_goals (try with_reducible (repeat' (first | apply And.intro | intro _)))
                      all_goals (try (first | with_reducible refine wa_id ?_ | exact True.intro | omega | (rw [tab_len]; omega)))
                      refine V_cond (evs ?_)
                      refine ⟨fun hc => ?_, fun hc => ?_⟩
                      · refine V_exit (evs ?_)
                        refine V_regionX Γ Δ [130] [0, 1, 2, 4, 5, 6, 7, 8, 9, 10, 11, 12, 13, 17, 25, 39, 45, 56, 63, 104, 106] (evs ?_)
                        all_goals (try with_reducible (repeat' (first | apply And.intro | intro _)))
                        all_goals (try (first | with_reducible refine wa_id ?_ | exact True.intro | omega | (rw [tab_len]; omega)))
                        refine V_next [] (i + 1) (evs ?_) ?_ ?_
                        all_goals (try with_reducible (repeat' (first | apply And.intro | intro _)))
                        all_goals (first | exact True.intro | omega | (first | (rw [w64 (by omega) (by omega)]; done) | (rw [gK_step (by omega) (by omega), gst_out (gout hc)]; done) | (rw [gK_step (by omega) (by omega)]; exact gr_max hc hc2) | (rw [gK_step (by omega) (by omega)]; exact gr_min hc hc2)))
                      · refine WA_skip ?_
                        refine WA_seq (x := (fcd Try.f27 [1, 1, 1, 1, 1, 0, 1, 0, 0, 1, 0, 0, 1, 0, 0, 1, 0, 0, 1, 0, 1, 0, 0, 1, 0, 0, 1, 0, 0, 1, 0, 0, 1, 0])) (y := (fcd Try.f27 [1, 1, 1, 1, 1, 0, 1, 0, 0, 1, 0, 0, 1, 0, 0, 1, 0, 0, 1, 0, 1, 0, 0, 1, 0, 0, 1, 0, 0, 1, 0, 0, 1, 1])) ?_
                        refine V_regionX Γ Δ [130] [0, 1, 2, 4, 5, 6, 7, 8, 9, 10, 11, 12, 13, 17, 25, 39, 45, 56, 63, 104, 106] (evs ?_)
                        have hc2 := gin hc
                        all_goals (try with_reducible (repeat' (first | apply And.intro | intro _)))
                        all_goals (try (first | with_reducible refine wa_id ?_ | exact True.intro | omega | (rw [tab_len]; omega)))
                        refine V_cond (evs ?_)
                        refine ⟨fun hc => ?_, fun hc => ?_⟩
                        · refine V_regionX Γ Δ [130] [0, 1, 2, 4, 5, 6, 7, 8, 9, 10, 11, 12, 13, 17, 25, 39, 45, 56, 63, 104, 106] (evs ?_)
                          simp (maxSteps := 10000000) (disch := omega) only [w64]
                          all_goals (try with_reducible (repeat' (first | apply And.intro | intro _)))
                          all_goals (try (first | with_reducible refine wa_id ?_ | exact True.intro | exact pick_fn ⟨_, _, _⟩ _ _ hm | omega | (rw [tab_len]; omega)))
                          refine V_regionX Γ Δ [130] [0, 1, 2, 4, 5, 6, 7, 8, 9, 10, 11, 12, 13, 17, 25, 39, 45, 56, 63, 104, 106] (evs ?_)
                          all_goals (try with_reducible (repeat' (first | apply And.intro | intro _)))
                          all_goals (try (first | with_reducible refine wa_id ?_ | exact True.intro | omega | (rw [tab_len]; omega)))
                          refine V_next [] (i + 1) (evs ?_) ?_ ?_
                          all_goals (try with_reducible (repeat' (first | apply And.intro | intro _)))
                          all_goals (first | exact True.intro | omega | (first | (rw [w64 (by omega) (by omega)]; done) | (rw [gK_step (by omega) (by omega), gst_out (gout hc)]; done) | (rw [gK_step (by omega) (by omega)]; exact gr_max hc hc2) | (rw [gK_step (by omega) (by omega)]; exact gr_min hc hc2)))
                        · refine V_regionX Γ Δ [130] [0, 1, 2, 4, 5, 6, 7, 8, 9, 10, 11, 12, 13, 17, 25, 39, 45, 56, 63, 104, 106] (evs ?_)
                          simp (maxSteps := 10000000) (disch := omega) only [w64]
                          all_goals (try with_reducible (repeat' (first | apply And.intro | intro _)))
                          all_goals (try (first | with_reducible refine wa_id ?_ | exact True.intro | exact pick_fn ⟨_, _, _⟩ _ _ hm | omega | (rw [tab_len]; omega)))
                          refine V_regionX Γ Δ [130] [0, 1, 2, 4, 5, 6, 7, 8, 9, 10, 11, 12, 13, 17, 25, 39, 45, 56, 63, 104, 106] (evs ?_)
                          all_goals (try with_reducible (repeat' (first | apply And.intro | intro _)))
                          all_goals (try (first | with_reducible refine wa_id ?_ | exact True.intro | omega | (rw [tab_len]; omega)))
                          refine V_next [] (i + 1) (evs ?_) ?_ ?_
                          all_goals (try with_reducible (repeat' (first | apply And.intro | intro _)))
                          all_goals (first | exact True.intro | omega | (first | (rw [w64 (by omega) (by omega)]; done) | (rw [gK_step (by omega) (by omega), gst_out (gout hc)]; done) | (rw [gK_step (by omega) (by omega)]; exact gr_max hc hc2) | (rw [gK_step (by omega) (by omega)]; exact gr_min hc hc2)))
                    · refine V_exit (evs ?_)
                      refine V_regionX Γ Δ [130] [0, 1, 2, 4, 5, 6, 7, 8, 9, 10, 11, 12, 13, 17, 25, 39, 45, 56, 63, 104, 106] (evs ?_)
                      all_goals (try with_reducible (repeat' (first | apply And.intro | intro _)))
                      all_goals (try (first | with_reducible refine wa_id ?_ | exact True.intro | omega | (rw [tab_len]; omega)))
                      refine V_next [] (j + 1) (evs ?_) ?_ ?_
                      all_goals (try with_reducible (repeat' (first | apply And.intro | intro _)))
                      all_goals (first | exact True.intro | omega | (first | (rw [w64 (by omega) (by omega)]; done) | exact gr_i1 (by omega) (by omega)))
                · refine V_exit (evs ?_)
                  refine V_regionX Γ Δ [130] [0, 1, 2, 4, 5, 6, 7, 8, 9, 10, 11, 12, 13, 17, 25, 39, 45, 56, 63, 104, 106] (evs ?_)
                  have hi := yxI hz ‹(y : Int) < _› ‹(x : Int) < _›
                  have ha := ap_b hz ‹(y : Int) < _› ‹(x : Int) < _›
                  all_goals (try with_reducible (repeat' (first | apply And.intro | intro _)))
                  all_goals (try (first | with_reducible refine wa_id ?_ | exact True.intro | omega | (rw [tab_len]; omega)))
                  simp only [gKE (show j = n.natAbs + 1 by omega)]
                  refine V_regionX Γ Δ [130] [0, 1, 2, 4, 5, 6, 7, 8, 9, 10, 11, 12, 13, 17, 25, 39, 45, 56, 63, 104, 106] (evs ?_)
                  all_goals (try with_reducible (repeat' (first | apply And.intro | intro _)))
                  all_goals (try (first | with_reducible refine wa_id ?_ | exact True.intro | omega | (rw [tab_len]; omega)))
                  refine V_next [(20001, some 131)] (x + 1) (evs ?_) ?_ ?_
                  all_goals (try with_reducible (repeat' (first | apply And.intro | intro _)))
                  all_goals (first | exact True.intro | omega | (first | exact w64l (n := 256) (by omega) (by omega) | exact tab_app (gF_at (F := gwF m n) (show x < m.w.toNat by omega)).symm))
            · refine V_exit (evs ?_)
              refine V_regionX Γ Δ [130] [0, 1, 2, 4, 5, 6, 7, 8, 9, 10, 11, 12, 13, 17, 25, 39, 45, 56, 63, 104, 106] (evs ?_)
              all_goals (try with_reducible (repeat' (first | apply And.intro | intro _)))
              all_goals (try (first | with_reducible refine wa_id ?_ | exact True.intro | omega | (rw [tab_len]; omega)))
              refine V_next [(20000, some 20001)] (y + 1) (evs ?_) ?_ ?_
              all_goals (try with_reducible (repeat' (first | apply And.intro | intro _)))
              all_goals (first | exact True.intro | omega | (first | exact w64l (n := 256) (by omega) (by omega) | (rw [row_e (w := m.w.toNat) (y := y) (x := x) (by omega) (by omega)]; done)))
        · refine V_exit (evs ?_)
          refine WA_seq (x := (fcd Try.f27 [1, 1, 1, 1, 1, 1, 0])) (y := (fcd Try.f27 [1, 1, 1, 1, 1, 1, 1])) ?_
          refine V_regionX Γ Δ [130] [0, 1, 2, 4, 5, 6, 7, 8, 9, 10, 11, 12, 13, 17, 25, 39, 45, 56, 63, 104, 106] (evs ?_)
          all_goals (try with_reducible (repeat' (first | apply And.intro | intro _)))
          all_goals (try (first | with_reducible refine wa_id ?_ | exact True.intro | omega | (rw [tab_len]; omega)))
          refine V_ret (evs ?_)
          first | exact bk0 _ (gw1 hc) | exact bk0 _ (gw2 ‹_› hc) | (rw [fall hY hc]; exact bk _ (gw3 hm hn)) | (rw [yall hY hc]; exact bk _ (gw3 hm hn))

end Go.S23

