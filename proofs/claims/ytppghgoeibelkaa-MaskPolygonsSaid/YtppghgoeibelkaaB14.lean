import Derived.Test.YtppghgoeibelkaaLE
import Derived.Test.YtppghgoeibelkaaB2
set_option linter.unusedSimpArgs false
set_option linter.unusedVariables false
namespace Go.S23
open Go.RowKit Go.Proofs Go.Eng Go.Rect
set_option maxHeartbeats 8000000 in
set_option maxRecDepth 100000 in
/-- imageeditor/mask.extreme -/
theorem ext_fn (m : Mk) (x y n : Int) (hm : mchkE m = 0) (hx : 0 ≤ x ∧ x < m.w) (hy : 0 ≤ y ∧ y < m.h) (hn : -16 ≤ n ∧ n ≤ 16) : Eng.Fn Try.prog 65 [mkD m, .i x, .i y, .i n] (.dat (.i (gwF m n x y))) := by
  have hq := mchk0 hm
  have hz := hq.1
  unfold Z0 at hz
  refine Eng.Fn.by (fn := Try.f65) 94 [.tmp 8] Try.func65 rfl Try.ntmps65 rfl (by simp) fun w0 => ?_
  refine WA_seq (x := (fcd Try.f65 [0])) (y := (fcd Try.f65 [1])) ?_
  refine V_regionX Γ Δ [] [0, 1, 2, 3, 4, 8, 9, 10, 11, 12, 13, 41, 57, 70, 86] (evs ?_)
  all_goals (try with_reducible (repeat' (first | apply And.intro | intro _)))
  all_goals (try (first | with_reducible refine wa_id ?_ | exact True.intro | omega))
  refine WA_seq (x := (fcd Try.f65 [1, 0])) (y := (fcd Try.f65 [1, 1])) ?_
  refine V_regionX Γ Δ [] [0, 1, 2, 3, 4, 8, 9, 10, 11, 12, 13, 41, 57, 70, 86] (evs ?_)
  have ha := atI hm (insM_T.2 ⟨hx.1, hx.2, hy.1, hy.2⟩)
  simp (maxSteps := 10000000) (disch := omega) only [w64]
  all_goals (try with_reducible (repeat' (first | apply And.intro | intro _)))
  all_goals (try (first | with_reducible refine wa_id ?_ | exact True.intro | omega))
  refine WA_seq (x := (fcd Try.f65 [1, 1, 0])) (y := (fcd Try.f65 [1, 1, 1])) ?_
  refine V_regionX Γ Δ [] [0, 1, 2, 3, 4, 8, 9, 10, 11, 12, 13, 41, 57, 70, 86] (evs ?_)
  simp (maxSteps := 10000000) (disch := omega) only [w64]
  simp only [mx_abs0]
  all_goals (try with_reducible (repeat' (first | apply And.intro | intro _)))
  all_goals (try (first | with_reducible refine wa_id ?_ | exact True.intro | omega))
  refine WA_seq (x := (fcd Try.f65 [1, 1, 1, 0])) (y := (fcd Try.f65 [1, 1, 1, 1])) ?_
  refine WA_seq (x := (fcd Try.f65 [1, 1, 1, 0, 0])) (y := (fcd Try.f65 [1, 1, 1, 0, 1])) ?_
  refine V_regionX Γ Δ [] [0, 1, 2, 3, 4, 8, 9, 10, 11, 12, 13, 41, 57, 70, 86] (evs ?_)
  simp (maxSteps := 10000000) (disch := omega) only [w64]
  simp only [Int.zero_sub]
  all_goals (try with_reducible (repeat' (first | apply And.intro | intro _)))
  all_goals (try (first | with_reducible refine wa_id ?_ | exact True.intro | omega))
  refine WA_block (c := (fcd Try.f65 [1, 1, 1, 0, 1, 0])) ?_
  refine V_loop (c := (fcd Try.f65 [1, 1, 1, 0, 1, 0, 0])) (α := Int) [9, 11, 12, 13, 41, 57, 70, 86] [] (fun j => [(11, .dat (.i j)), (9, .dat (.i (growK m x y n n.natAbs (j + n.natAbs).toNat 0)))]) (fun j => []) (fun j => max (-(n.natAbs : Int)) (-y) ≤ j ∧ j ≤ min (n.natAbs : Int) (m.h - 1 - y) + 1) (fun j => (min (n.natAbs : Int) (m.h - 1 - y) + 1 - j).toNat) (max (-(n.natAbs : Int)) (-y)) [] ?_ (evs ?_) ?_
  · omega
  · (try with_reducible (repeat' (first | apply And.intro | intro _)))
    all_goals (first | exact True.intro | omega | (first | exact gK_0 hy.1 | rfl))
  · intro j hJ
    refine WA_seq (x := (fcd Try.f65 [1, 1, 1, 0, 1, 0, 0, 0])) (y := (fcd Try.f65 [1, 1, 1, 0, 1, 0, 0, 1])) ?_
    refine WA_seq (x := (fcd Try.f65 [1, 1, 1, 0, 1, 0, 0, 0, 0])) (y := (fcd Try.f65 [1, 1, 1, 0, 1, 0, 0, 0, 1])) ?_
    refine V_regionX Γ Δ [] [0, 1, 2, 3, 4, 8, 9, 10, 11, 12, 13, 41, 57, 70, 86] (evs ?_)
    simp (maxSteps := 10000000) (disch := omega) only [w64]
    all_goals (try with_reducible (repeat' (first | apply And.intro | intro _)))
    all_goals (try (first | with_reducible refine wa_id ?_ | exact True.intro | omega))
    refine V_cond (evs ?_)
    refine ⟨fun hc => ?_, fun hc => ?_⟩
    · refine WA_skip ?_
      refine WA_seq (x := (fcd Try.f65 [1, 1, 1, 0, 1, 0, 0, 1, 0])) (y := (fcd Try.f65 [1, 1, 1, 0, 1, 0, 0, 1, 1])) ?_
      refine WA_block (c := (fcd Try.f65 [1, 1, 1, 0, 1, 0, 0, 1, 0, 0])) ?_
      refine WA_seq (x := (fcd Try.f65 [1, 1, 1, 0, 1, 0, 0, 1, 0, 0, 0])) (y := (fcd Try.f65 [1, 1, 1, 0, 1, 0, 0, 1, 0, 0, 1])) ?_
      refine V_regionX Γ Δ [] [0, 1, 2, 3, 4, 8, 9, 10, 11, 12, 13, 41, 57, 70, 86] (evs ?_)
      simp (maxSteps := 10000000) (disch := omega) only [w64]
      simp only [Int.zero_sub]
      all_goals (try with_reducible (repeat' (first | apply And.intro | intro _)))
      all_goals (try (first | with_reducible refine wa_id ?_ | exact True.intro | omega))
      refine WA_block (c := (fcd Try.f65 [1, 1, 1, 0, 1, 0, 0, 1, 0, 0, 1, 0])) ?_
      refine V_loop (c := (fcd Try.f65 [1, 1, 1, 0, 1, 0, 0, 1, 0, 0, 1, 0, 0])) (α := Int) [9, 12, 13, 57, 70, 86] [] (fun i => [(12, .dat (.i i)), (9, .dat (.i (gK m x y n j i)))]) (fun i => []) (fun i => max (-(n.natAbs : Int)) (-x) ≤ i ∧ i ≤ min (n.natAbs : Int) (m.w - 1 - x) + 1) (fun i => (min (n.natAbs : Int) (m.w - 1 - x) + 1 - i).toNat) (max (-(n.natAbs : Int)) (-x)) [] ?_ (evs ?_) ?_
      · omega
      · (try with_reducible (repeat' (first | apply And.intro | intro _)))
        all_goals (first | exact True.intro | omega | (first | exact gK_i0 hx.1 | rfl))
      · intro i hI
        refine WA_seq (x := (fcd Try.f65 [1, 1, 1, 0, 1, 0, 0, 1, 0, 0, 1, 0, 0, 0])) (y := (fcd Try.f65 [1, 1, 1, 0, 1, 0, 0, 1, 0, 0, 1, 0, 0, 1])) ?_
        refine WA_seq (x := (fcd Try.f65 [1, 1, 1, 0, 1, 0, 0, 1, 0, 0, 1, 0, 0, 0, 0])) (y := (fcd Try.f65 [1, 1, 1, 0, 1, 0, 0, 1, 0, 0, 1, 0, 0, 0, 1])) ?_
        refine V_regionX Γ Δ [] [0, 1, 2, 3, 4, 8, 9, 10, 11, 12, 13, 41, 57, 70, 86] (evs ?_)
        simp (maxSteps := 10000000) (disch := omega) only [w64]
        all_goals (try with_reducible (repeat' (first | apply And.intro | intro _)))
        all_goals (try (first | with_reducible refine wa_id ?_ | exact True.intro | omega))
        refine V_cond (evs ?_)
        refine ⟨fun hc => ?_, fun hc => ?_⟩
        · refine WA_skip ?_
          refine WA_seq (x := (fcd Try.f65 [1, 1, 1, 0, 1, 0, 0, 1, 0, 0, 1, 0, 0, 1, 0])) (y := (fcd Try.f65 [1, 1, 1, 0, 1, 0, 0, 1, 0, 0, 1, 0, 0, 1, 1])) ?_
          refine WA_block (c := (fcd Try.f65 [1, 1, 1, 0, 1, 0, 0, 1, 0, 0, 1, 0, 0, 1, 0, 0])) ?_
          refine WA_seq (x := (fcd Try.f65 [1, 1, 1, 0, 1, 0, 0, 1, 0, 0, 1, 0, 0, 1, 0, 0, 0])) (y := (fcd Try.f65 [1, 1, 1, 0, 1, 0, 0, 1, 0, 0, 1, 0, 0, 1, 0, 0, 1])) ?_
          refine WA_seq (x := (fcd Try.f65 [1, 1, 1, 0, 1, 0, 0, 1, 0, 0, 1, 0, 0, 1, 0, 0, 0, 0])) (y := (fcd Try.f65 [1, 1, 1, 0, 1, 0, 0, 1, 0, 0, 1, 0, 0, 1, 0, 0, 0, 1])) ?_
          refine V_regionX Γ Δ [] [0, 1, 2, 3, 4, 8, 9, 10, 11, 12, 13, 41, 57, 70, 86] (evs ?_)
          have hq1 := sq_b (i := i) (by omega)
          have hq2 := sq_b (i := j) (by omega)
          have hq3 := sq_b (i := n) (by omega)
          simp (maxSteps := 10000000) (disch := omega) only [w64]
          all_goals (try with_reducible (repeat' (first | apply And.intro | intro _)))
          all_goals (try (first | with_reducible refine wa_id ?_ | exact True.intro | omega))
          refine V_cond (evs ?_)
          refine ⟨fun hc => ?_, fun hc => ?_⟩
          · refine V_exit (evs ?_)
            refine V_regionX Γ Δ [] [0, 1, 2, 3, 4, 8, 9, 10, 11, 12, 13, 41, 57, 70, 86] (evs ?_)
            all_goals (try with_reducible (repeat' (first | apply And.intro | intro _)))
            all_goals (try (first | with_reducible refine wa_id ?_ | exact True.intro | omega))
            refine V_next [] (i + 1) (evs ?_) ?_ ?_
            all_goals (try with_reducible (repeat' (first | apply And.intro | intro _)))
            all_goals (first | exact True.intro | omega | (first | (rw [w64 (by omega) (by omega)]; done) | (rw [gK_step (by omega) (by omega), gst_out (.inl hc)]; done) | (rw [gK_step (by omega) (by omega)]; exact gst_max hc hc2 hin (by rw [Int.add_assoc])) | (rw [gK_step (by omega) (by omega)]; exact gst_min hc hc2 hin (by rw [Int.add_assoc]))))
          · refine WA_skip ?_
            refine WA_seq (x := (fcd Try.f65 [1, 1, 1, 0, 1, 0, 0, 1, 0, 0, 1, 0, 0, 1, 0, 0, 1, 0])) (y := (fcd Try.f65 [1, 1, 1, 0, 1, 0, 0, 1, 0, 0, 1, 0, 0, 1, 0, 0, 1, 1])) ?_
            refine V_regionX Γ Δ [] [0, 1, 2, 3, 4, 8, 9, 10, 11, 12, 13, 41, 57, 70, 86] (evs ?_)
            have hin : insM m (x + i) (y + j) = true := insM_T.2 (by omega)
            have ha := atI hm hin
            simp (maxSteps := 10000000) (disch := omega) only [w64]
            have hc2 := hc
            all_goals (try with_reducible (repeat' (first | apply And.intro | intro _)))
            all_goals (try (first | with_reducible refine wa_id ?_ | exact True.intro | omega))
            refine WA_seq (x := (fcd Try.f65 [1, 1, 1, 0, 1, 0, 0, 1, 0, 0, 1, 0, 0, 1, 0, 0, 1, 1, 0])) (y := (fcd Try.f65 [1, 1, 1, 0, 1, 0, 0, 1, 0, 0, 1, 0, 0, 1, 0, 0, 1, 1, 1])) ?_
            refine V_regionX Γ Δ [] [0, 1, 2, 3, 4, 8, 9, 10, 11, 12, 13, 41, 57, 70, 86] (evs ?_)
            all_goals (try with_reducible (repeat' (first | apply And.intro | intro _)))
            all_goals (try (first | with_reducible refine wa_id ?_ | exact True.intro | omega))
            refine V_cond (evs ?_)
            refine ⟨fun hc => ?_, fun hc => ?_⟩
            · refine V_regionX Γ Δ [] [0, 1, 2, 3, 4, 8, 9, 10, 11, 12, 13, 41, 57, 70, 86] (evs ?_)
              all_goals (try with_reducible (repeat' (first | apply And.intro | intro _)))
              all_goals (try (first | with_reducible refine wa_id ?_ | exact True.intro | omega))
              refine V_regionX Γ Δ [] [0, 1, 2, 3, 4, 8, 9, 10, 11, 12, 13, 41, 57, 70, 86] (evs ?_)
              all_goals (try with_reducible (repeat' (first | apply And.intro | intro _)))
              all_goals (try (first | with_reducible refine wa_id ?_ | exact True.intro | omega))
              refine V_next [] (i + 1) (evs ?_) ?_ ?_
              all_goals (try with_reducible (repeat' (first | apply And.intro | intro _)))
              all_goals (first | exact True.intro | omega | (first | (rw [w64 (by omega) (by omega)]; done) | (rw [gK_step (by omega) (by omega), gst_out (.inl hc)]; done) | (rw [gK_step (by omega) (by omega)]; exact gst_max hc hc2 hin (by rw [Int.add_assoc])) | (rw [gK_step (by omega) (by omega)]; exact gst_min hc hc2 hin (by rw [Int.add_assoc]))))
            · refine V_regionX Γ Δ [] [0, 1, 2, 3, 4, 8, 9, 10, 11, 12, 13, 41, 57, 70, 86] (evs ?_)
              all_goals (try with_reducible (repeat' (first | apply And.intro | intro _)))
              all_goals (try (first | with_reducible refine wa_id ?_ | exact True.intro | omega))
              refine V_regionX Γ Δ [] [0, 1, 2, 3, 4, 8, 9, 10, 11, 12, 13, 41, 57, 70, 86] (evs ?_)
              all_goals (try with_reducible (repeat' (first | apply And.intro | intro _)))
              all_goals (try (first | with_reducible refine wa_id ?_ | exact True.intro | omega))
              refine V_next [] (i + 1) (evs ?_) ?_ ?_
              all_goals (try with_reducible (repeat' (first | apply And.intro | intro _)))
              all_goals (first | exact True.intro | omega | (first | (rw [w64 (by omega) (by omega)]; done) | (rw [gK_step (by omega) (by omega), gst_out (.inl hc)]; done) | (rw [gK_step (by omega) (by omega)]; exact gst_max hc hc2 hin (by rw [Int.add_assoc])) | (rw [gK_step (by omega) (by omega)]; exact gst_min hc hc2 hin (by rw [Int.add_assoc]))))
        · refine V_exit (evs ?_)
          refine V_regionX Γ Δ [] [0, 1, 2, 3, 4, 8, 9, 10, 11, 12, 13, 41, 57, 70, 86] (evs ?_)
          all_goals (try with_reducible (repeat' (first | apply And.intro | intro _)))
          all_goals (try (first | with_reducible refine wa_id ?_ | exact True.intro | omega))
          refine V_next [] (j + 1) (evs ?_) ?_ ?_
          all_goals (try with_reducible (repeat' (first | apply And.intro | intro _)))
          all_goals (first | exact True.intro | omega | (first | (rw [w64 (by omega) (by omega)]; done) | exact gK_i1 (by omega) (by omega) (by omega) (by omega) (by omega)))
    · refine V_exit (evs ?_)
      refine WA_seq (x := (fcd Try.f65 [1, 1, 1, 1, 0])) (y := (fcd Try.f65 [1, 1, 1, 1, 1])) ?_
      refine V_regionX Γ Δ [] [0, 1, 2, 3, 4, 8, 9, 10, 11, 12, 13, 41, 57, 70, 86] (evs ?_)
      all_goals (try with_reducible (repeat' (first | apply And.intro | intro _)))
      all_goals (try (first | with_reducible refine wa_id ?_ | exact True.intro | omega))
      refine V_ret (evs ?_)
      first | exact gK_all (by omega) (by omega) (by omega) (by omega)

set_option maxHeartbeats 4000000 in
/-- imageeditor/mask.Grow -/
theorem gw_fn (m : Mk) (n : Int) : Eng.Fn Try.prog 26 [mkD m, .i n] (.tup [.agg [.dat (.i (gwR m n).w), .dat (.i (gwR m n).h), .own 3 1 ((gwR m n).v.map iC)], .dat (.i (gwE m n))]) := by
  refine Eng.Fn.by (fn := Try.f26) 55 [.cell 4 24, .tmp 5] Try.func26 rfl Try.ntmps26 rfl (by simp) fun w0 => ?_
  refine WA_seq (x := (fcd Try.f26 [0])) (y := (fcd Try.f26 [1])) ?_
  refine V_regionX Γ Δ [] [0, 1, 2, 4, 5, 6, 7, 8, 9, 13, 21, 29, 30, 31, 34, 35, 36] (evs ?_)
  all_goals (try with_reducible (repeat' (first | apply And.intro | intro _)))
  all_goals (try (first | with_reducible refine wa_id ?_ | exact True.intro | omega))
  refine WA_seq (x := (fcd Try.f26 [1, 0])) (y := (fcd Try.f26 [1, 1])) ?_
  refine WA_seq (x := (fcd Try.f26 [1, 0, 0])) (y := (fcd Try.f26 [1, 0, 1])) ?_
  refine V_regionX Γ Δ [] [0, 1, 2, 4, 5, 6, 7, 8, 9, 13, 21, 29, 30, 31, 34, 35, 36] (evs ?_)
  all_goals (try with_reducible (repeat' (first | apply And.intro | intro _)))
  all_goals (try (first | with_reducible refine wa_id ?_ | exact True.intro | exact mcheck_fn ⟨_, _, _⟩ | omega))
  refine WA_seq (x := (fcd Try.f26 [1, 0, 1, 0])) (y := (fcd Try.f26 [1, 0, 1, 1])) ?_
  refine V_regionX Γ Δ [] [0, 1, 2, 4, 5, 6, 7, 8, 9, 13, 21, 29, 30, 31, 34, 35, 36] (evs ?_)
  all_goals (try with_reducible (repeat' (first | apply And.intro | intro _)))
  all_goals (try (first | with_reducible refine wa_id ?_ | exact True.intro | omega))
  refine V_cond (evs ?_)
  refine ⟨fun hc => ?_, fun hc => ?_⟩
  · refine WA_seq (x := (fcd Try.f26 [1, 0, 1, 1, 0, 0])) (y := (fcd Try.f26 [1, 0, 1, 1, 0, 1])) ?_
    refine V_regionX Γ Δ [] [0, 1, 2, 4, 5, 6, 7, 8, 9, 13, 21, 29, 30, 31, 34, 35, 36] (evs ?_)
    all_goals (try with_reducible (repeat' (first | apply And.intro | intro _)))
    all_goals (try (first | with_reducible refine wa_id ?_ | exact True.intro | omega))
    refine V_ret (evs ?_)
    first | exact bk0 _ (gw1 hc) | exact bk0 _ (gw2 ‹_› hc) | (rw [fall hY hc]; exact bk _ (gw3 hm hn)) | (rw [yall hY hc]; exact bk _ (gw3 hm hn))
  · refine WA_skip ?_
    refine WA_seq (x := (fcd Try.f26 [1, 1, 0])) (y := (fcd Try.f26 [1, 1, 1])) ?_
    refine WA_seq (x := (fcd Try.f26 [1, 1, 0, 0])) (y := (fcd Try.f26 [1, 1, 0, 1])) ?_
    refine V_regionX Γ Δ [] [0, 1, 2, 4, 5, 6, 7, 8, 9, 13, 21, 29, 30, 31, 34, 35, 36] (evs ?_)
    all_goals (try with_reducible (repeat' (first | apply And.intro | intro _)))
    all_goals (try (first | with_reducible refine wa_id ?_ | exact True.intro | omega))
    refine V_cond (evs ?_)
    refine ⟨fun hc => ?_, fun hc => ?_⟩
    · refine WA_seq (x := (fcd Try.f26 [1, 1, 0, 1, 0, 0])) (y := (fcd Try.f26 [1, 1, 0, 1, 0, 1])) ?_
      refine V_regionX Γ Δ [] [0, 1, 2, 4, 5, 6, 7, 8, 9, 13, 21, 29, 30, 31, 34, 35, 36] (evs ?_)
      all_goals (try with_reducible (repeat' (first | apply And.intro | intro _)))
      all_goals (try (first | with_reducible refine wa_id ?_ | exact True.intro | omega))
      refine V_ret (evs ?_)
      first | exact bk0 _ (gw1 hc) | exact bk0 _ (gw2 ‹_› hc) | (rw [fall hY hc]; exact bk _ (gw3 hm hn)) | (rw [yall hY hc]; exact bk _ (gw3 hm hn))
    · refine WA_skip ?_
      refine WA_seq (x := (fcd Try.f26 [1, 1, 1, 0])) (y := (fcd Try.f26 [1, 1, 1, 1])) ?_
      refine V_regionX Γ Δ [] [0, 1, 2, 4, 5, 6, 7, 8, 9, 13, 21, 29, 30, 31, 34, 35, 36] (evs ?_)
      have hm := ‹mchkE m = 0›
      have hq := mchk0 hm
      have hz := hq.1
      have hz2 := hz
      unfold Z0 at hz2
      have hnb := nn_bd hz
      have hln := hq.2.2.1
      have hn := hc
      all_goals (try with_reducible (repeat' (first | apply And.intro | intro _)))
      all_goals (try (first | with_reducible refine wa_id ?_ | exact True.intro | exact blank_fn _ _ hz | omega))
      refine WA_seq (x := (fcd Try.f26 [1, 1, 1, 1, 0])) (y := (fcd Try.f26 [1, 1, 1, 1, 1])) ?_
      refine WA_seq (x := (fcd Try.f26 [1, 1, 1, 1, 0, 0])) (y := (fcd Try.f26 [1, 1, 1, 1, 0, 1])) ?_
      refine V_regionX Γ Δ [] [0, 1, 2, 4, 5, 6, 7, 8, 9, 13, 21, 29, 30, 31, 34, 35, 36] (evs ?_)
      all_goals (try with_reducible (repeat' (first | apply And.intro | intro _)))
      all_goals (try (first | with_reducible refine wa_id ?_ | exact True.intro | omega))
      refine WA_block (c := (fcd Try.f26 [1, 1, 1, 1, 0, 1, 0])) ?_
      refine V_loop (c := (fcd Try.f26 [1, 1, 1, 1, 0, 1, 0, 0])) (α := Nat) [8, 9, 30, 31, 34, 35, 36] [12700, 15000, 15001, 15002, 15003] (fun y => [(30, .dat (.i (y : Int)))]) (fun y => [(12700, some (true, .arr 3 1 ((fil (nn m.w m.h) (gF m.w.toNat (gwF m n)) (y * m.w.toNat)).map iC)))]) (fun y => y ≤ m.h.toNat) (fun y => m.h.toNat - y) 0 [] ?_ (evs ?_) ?_
      · exact Nat.zero_le _
      · (try with_reducible (repeat' (first | apply And.intro | intro _)))
        all_goals (first | exact True.intro | omega | (first | exact fil_0I _ _ | (rw [Nat.zero_mul]; exact fil_0I _ _) | (rw [fil_0 (nn m.w m.h) (gF m.w.toNat (gwF m n))]; simp; done) | rfl))
      · intro y hY
        refine WA_seq (x := (fcd Try.f26 [1, 1, 1, 1, 0, 1, 0, 0, 0])) (y := (fcd Try.f26 [1, 1, 1, 1, 0, 1, 0, 0, 1])) ?_
        refine V_regionX Γ Δ [] [0, 1, 2, 4, 5, 6, 7, 8, 9, 13, 21, 29, 30, 31, 34, 35, 36] (evs ?_)
        all_goals (try with_reducible (repeat' (first | apply And.intro | intro _)))
        all_goals (try (first | with_reducible refine wa_id ?_ | exact True.intro | omega))
        refine WA_seq (x := (fcd Try.f26 [1, 1, 1, 1, 0, 1, 0, 0, 1, 0])) (y := (fcd Try.f26 [1, 1, 1, 1, 0, 1, 0, 0, 1, 1])) ?_
        refine V_cond (evs ?_)
        refine ⟨fun hc => ?_, fun hc => ?_⟩
        · refine WA_skip ?_
          refine WA_seq (x := (fcd Try.f26 [1, 1, 1, 1, 0, 1, 0, 0, 1, 1, 0])) (y := (fcd Try.f26 [1, 1, 1, 1, 0, 1, 0, 0, 1, 1, 1])) ?_
          refine WA_block (c := (fcd Try.f26 [1, 1, 1, 1, 0, 1, 0, 0, 1, 1, 0, 0])) ?_
          refine WA_seq (x := (fcd Try.f26 [1, 1, 1, 1, 0, 1, 0, 0, 1, 1, 0, 0, 0])) (y := (fcd Try.f26 [1, 1, 1, 1, 0, 1, 0, 0, 1, 1, 0, 0, 1])) ?_
          refine V_regionX Γ Δ [] [0, 1, 2, 4, 5, 6, 7, 8, 9, 13, 21, 29, 30, 31, 34, 35, 36] (evs ?_)
          all_goals (try with_reducible (repeat' (first | apply And.intro | intro _)))
          all_goals (try (first | with_reducible refine wa_id ?_ | exact True.intro | omega))
          refine WA_seq (x := (fcd Try.f26 [1, 1, 1, 1, 0, 1, 0, 0, 1, 1, 0, 0, 1, 0])) (y := (fcd Try.f26 [1, 1, 1, 1, 0, 1, 0, 0, 1, 1, 0, 0, 1, 1])) ?_
          refine V_regionX Γ Δ [] [0, 1, 2, 4, 5, 6, 7, 8, 9, 13, 21, 29, 30, 31, 34, 35, 36] (evs ?_)
          all_goals (try with_reducible (repeat' (first | apply And.intro | intro _)))
          all_goals (try (first | with_reducible refine wa_id ?_ | exact True.intro | omega))
          refine WA_block (c := (fcd Try.f26 [1, 1, 1, 1, 0, 1, 0, 0, 1, 1, 0, 0, 1, 1, 0])) ?_
          refine V_loop (c := (fcd Try.f26 [1, 1, 1, 1, 0, 1, 0, 0, 1, 1, 0, 0, 1, 1, 0, 0])) (α := Nat) [9, 35, 36] [12700, 15000, 15001, 15002, 15003] (fun x => [(35, .dat (.i (x : Int)))]) (fun x => [(12700, some (true, .arr 3 1 ((fil (nn m.w m.h) (gF m.w.toNat (gwF m n)) (y * m.w.toNat + x)).map iC)))]) (fun x => x ≤ m.w.toNat) (fun x => m.w.toNat - x) 0 [] ?_ (evs ?_) ?_
          · exact Nat.zero_le _
          · (try with_reducible (repeat' (first | apply And.intro | intro _)))
            all_goals (first | exact True.intro | omega | (first | rfl))
          · intro x hX
            refine WA_seq (x := (fcd Try.f26 [1, 1, 1, 1, 0, 1, 0, 0, 1, 1, 0, 0, 1, 1, 0, 0, 0])) (y := (fcd Try.f26 [1, 1, 1, 1, 0, 1, 0, 0, 1, 1, 0, 0, 1, 1, 0, 0, 1])) ?_
            refine V_regionX Γ Δ [] [0, 1, 2, 4, 5, 6, 7, 8, 9, 13, 21, 29, 30, 31, 34, 35, 36] (evs ?_)
            all_goals (try with_reducible (repeat' (first | apply And.intro | intro _)))
            all_goals (try (first | with_reducible refine wa_id ?_ | exact True.intro | omega))
            refine WA_seq (x := (fcd Try.f26 [1, 1, 1, 1, 0, 1, 0, 0, 1, 1, 0, 0, 1, 1, 0, 0, 1, 0])) (y := (fcd Try.f26 [1, 1, 1, 1, 0, 1, 0, 0, 1, 1, 0, 0, 1, 1, 0, 0, 1, 1])) ?_
            refine V_cond (evs ?_)
            refine ⟨fun hc => ?_, fun hc => ?_⟩
            · refine WA_skip ?_
              refine WA_seq (x := (fcd Try.f26 [1, 1, 1, 1, 0, 1, 0, 0, 1, 1, 0, 0, 1, 1, 0, 0, 1, 1, 0])) (y := (fcd Try.f26 [1, 1, 1, 1, 0, 1, 0, 0, 1, 1, 0, 0, 1, 1, 0, 0, 1, 1, 1])) ?_
              refine WA_block (c := (fcd Try.f26 [1, 1, 1, 1, 0, 1, 0, 0, 1, 1, 0, 0, 1, 1, 0, 0, 1, 1, 0, 0])) ?_
              refine WA_seq (x := (fcd Try.f26 [1, 1, 1, 1, 0, 1, 0, 0, 1, 1, 0, 0, 1, 1, 0, 0, 1, 1, 0, 0, 0])) (y := (fcd Try.f26 [1, 1, 1, 1, 0, 1, 0, 0, 1, 1, 0, 0, 1, 1, 0, 0, 1, 1, 0, 0, 1])) ?_
              refine V_regionX Γ Δ [] [0, 1, 2, 4, 5, 6, 7, 8, 9, 13, 21, 29, 30, 31, 34, 35, 36] (evs ?_)
              all_goals (try with_reducible (repeat' (first | apply And.intro | intro _)))
              all_goals (try (first | with_reducible refine wa_id ?_ | exact True.intro | omega))
              refine V_draw Γ [] [0, 1, 2, 4, 5, 6, 7, 8, 9, 13, 21, 29, 30, 31, 34, 35, 36] mixed (by kernel_rfl) (evs ?_)
              have hi := yxI hz ‹(y : Int) < _› ‹(x : Int) < _›
              simp only [yxW hz ‹(y : Int) < m.h› ‹(x : Int) < m.w›, Int.toNat_natCast]
              all_goals (try with_reducible (repeat' (first | apply And.intro | intro _)))
              all_goals (try (first | with_reducible refine wa_id ?_ | exact True.intro | exact ext_fn ⟨_, _, _⟩ _ _ _ hm (by simp only; omega) (by simp only; omega) (by omega) | omega))
              refine V_regionX Γ Δ [] [0, 1, 2, 4, 5, 6, 7, 8, 9, 13, 21, 29, 30, 31, 34, 35, 36] (evs ?_)
              all_goals (try with_reducible (repeat' (first | apply And.intro | intro _)))
              all_goals (try (first | with_reducible refine wa_id ?_ | exact True.intro | omega))
              refine V_next [] (x + 1) (evs ?_) ?_ ?_
              all_goals (try with_reducible (repeat' (first | apply And.intro | intro _)))
              all_goals (first | exact True.intro | omega | (first | exact w64l (n := 256) (by omega) (by omega) | exact fil_setI (by rw [gF_at (show x < m.w.toNat by omega)]; done) | exact fil_setI (gF_at (F := gwF m n) (show x < m.w.toNat by omega)).symm))
            · refine V_exit (evs ?_)
              refine V_regionX Γ Δ [] [0, 1, 2, 4, 5, 6, 7, 8, 9, 13, 21, 29, 30, 31, 34, 35, 36] (evs ?_)
              all_goals (try with_reducible (repeat' (first | apply And.intro | intro _)))
              all_goals (try (first | with_reducible refine wa_id ?_ | exact True.intro | omega))
              refine V_next [] (y + 1) (evs ?_) ?_ ?_
              all_goals (try with_reducible (repeat' (first | apply And.intro | intro _)))
              all_goals (first | exact True.intro | omega | (first | exact w64l (n := 256) (by omega) (by omega) | (rw [row_e (w := m.w.toNat) (y := y) (x := x) (by omega) (by omega)]; done)))
        · refine V_exit (evs ?_)
          refine WA_seq (x := (fcd Try.f26 [1, 1, 1, 1, 1, 0])) (y := (fcd Try.f26 [1, 1, 1, 1, 1, 1])) ?_
          refine V_regionX Γ Δ [] [0, 1, 2, 4, 5, 6, 7, 8, 9, 13, 21, 29, 30, 31, 34, 35, 36] (evs ?_)
          all_goals (try with_reducible (repeat' (first | apply And.intro | intro _)))
          all_goals (try (first | with_reducible refine wa_id ?_ | exact True.intro | omega))
          refine V_ret (evs ?_)
          first | exact bk0 _ (gw1 hc) | exact bk0 _ (gw2 ‹_› hc) | (rw [fall hY hc]; exact bk _ (gw3 hm hn)) | (rw [yall hY hc]; exact bk _ (gw3 hm hn))

end Go.S23

