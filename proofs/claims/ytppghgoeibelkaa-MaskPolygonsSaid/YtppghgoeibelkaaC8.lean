import Derived.Test.YtppghgoeibelkaaC1
import Derived.Test.YtppghgoeibelkaaC3
import Derived.Test.YtppghgoeibelkaaC6
import Derived.Test.YtppghgoeibelkaaC7
set_option linter.unusedSimpArgs false
set_option linter.unusedVariables false
namespace Go.S23
open Go.RowKit Go.Proofs Go.Eng Go.Rect
set_option maxHeartbeats 8000000 in
set_option maxRecDepth 100000 in
/-- imageeditor/cover.Mask -/
theorem cmask_fn (ps : List (List Pt)) (rule : Int) (r : Rc) : Eng.Fn Try.prog 76 [.sl 1 (ps.map plyC), .i rule, rcD r] (.tup [.agg [.dat (.i (maskR ps rule r).w), .dat (.i (maskR ps rule r).h), .own 3 1 ((maskR ps rule r).v.map iC)], .dat (.i (maskE ps rule r))]) := by
  refine Eng.Fn.by (fn := Try.f76) 111 [.cell 6 24, .tmp 7] Try.func76 rfl Try.ntmps76 rfl (by simp) fun w0 => ?_
  refine WA_seq (x := (fcd Try.f76 [0])) (y := (fcd Try.f76 [1])) ?_
  refine V_regionX Γ Δ [65] [0, 1, 2, 5, 6, 7, 8, 9, 10, 11, 12, 13, 14, 15, 16, 17, 18, 23, 29, 33, 52, 53, 54, 78, 79, 89, 95, 96, 97, 98] (evs ?_)
  all_goals (try with_reducible (repeat' (first | apply And.intro | intro _)))
  all_goals (try (first | with_reducible refine wa_id ?_ | exact True.intro | omega | exact sl_1 | exact sl_2 hs hy | exact sl_3 hs hy | (have := yw hs hy; omega) | (rw [SG_len]; have := yw hs hy; omega)))
  refine WA_seq (x := (fcd Try.f76 [1, 0])) (y := (fcd Try.f76 [1, 1])) ?_
  refine WA_seq (x := (fcd Try.f76 [1, 0, 0])) (y := (fcd Try.f76 [1, 0, 1])) ?_
  refine V_regionX Γ Δ [65] [0, 1, 2, 5, 6, 7, 8, 9, 10, 11, 12, 13, 14, 15, 16, 17, 18, 23, 29, 33, 52, 53, 54, 78, 79, 89, 95, 96, 97, 98] (evs ?_)
  all_goals (try with_reducible (repeat' (first | apply And.intro | intro _)))
  all_goals (try (first | with_reducible refine wa_id ?_ | exact True.intro | exact ccheck_fn _ _ | omega | exact sl_1 | exact sl_2 hs hy | exact sl_3 hs hy | (have := yw hs hy; omega) | (rw [SG_len]; have := yw hs hy; omega)))
  refine WA_seq (x := (fcd Try.f76 [1, 0, 1, 0])) (y := (fcd Try.f76 [1, 0, 1, 1])) ?_
  refine V_regionX Γ Δ [65] [0, 1, 2, 5, 6, 7, 8, 9, 10, 11, 12, 13, 14, 15, 16, 17, 18, 23, 29, 33, 52, 53, 54, 78, 79, 89, 95, 96, 97, 98] (evs ?_)
  all_goals (try with_reducible (repeat' (first | apply And.intro | intro _)))
  all_goals (try (first | with_reducible refine wa_id ?_ | exact True.intro | omega | exact sl_1 | exact sl_2 hs hy | exact sl_3 hs hy | (have := yw hs hy; omega) | (rw [SG_len]; have := yw hs hy; omega)))
  refine V_cond (evs ?_)
  refine ⟨fun hc => ?_, fun hc => ?_⟩
  · refine WA_seq (x := (fcd Try.f76 [1, 0, 1, 1, 0, 0])) (y := (fcd Try.f76 [1, 0, 1, 1, 0, 1])) ?_
    refine V_regionX Γ Δ [65] [0, 1, 2, 5, 6, 7, 8, 9, 10, 11, 12, 13, 14, 15, 16, 17, 18, 23, 29, 33, 52, 53, 54, 78, 79, 89, 95, 96, 97, 98] (evs ?_)
    all_goals (try with_reducible (repeat' (first | apply And.intro | intro _)))
    all_goals (try (first | with_reducible refine wa_id ?_ | exact True.intro | omega | exact sl_1 | exact sl_2 hs hy | exact sl_3 hs hy | (have := yw hs hy; omega) | (rw [SG_len]; have := yw hs hy; omega)))
    refine V_ret (evs ?_)
    first | exact bk0 _ (mkE1 hc) | exact bk0 _ (mkE2 ‹_› hc) | exact bk0 _ (mkE3 ‹_› ‹_› hc) | exact bk _ (cm4 hk ha he hQ.1 hc)
  · refine WA_skip ?_
    refine WA_seq (x := (fcd Try.f76 [1, 1, 0])) (y := (fcd Try.f76 [1, 1, 1])) ?_
    refine WA_seq (x := (fcd Try.f76 [1, 1, 0, 0])) (y := (fcd Try.f76 [1, 1, 0, 1])) ?_
    refine V_regionX Γ Δ [65] [0, 1, 2, 5, 6, 7, 8, 9, 10, 11, 12, 13, 14, 15, 16, 17, 18, 23, 29, 33, 52, 53, 54, 78, 79, 89, 95, 96, 97, 98] (evs ?_)
    all_goals (try with_reducible (repeat' (first | apply And.intro | intro _)))
    all_goals (try (first | with_reducible refine wa_id ?_ | exact True.intro | exact area20_fn _ | omega | exact sl_1 | exact sl_2 hs hy | exact sl_3 hs hy | (have := yw hs hy; omega) | (rw [SG_len]; have := yw hs hy; omega)))
    refine WA_seq (x := (fcd Try.f76 [1, 1, 0, 1, 0])) (y := (fcd Try.f76 [1, 1, 0, 1, 1])) ?_
    refine V_regionX Γ Δ [65] [0, 1, 2, 5, 6, 7, 8, 9, 10, 11, 12, 13, 14, 15, 16, 17, 18, 23, 29, 33, 52, 53, 54, 78, 79, 89, 95, 96, 97, 98] (evs ?_)
    all_goals (try with_reducible (repeat' (first | apply And.intro | intro _)))
    all_goals (try (first | with_reducible refine wa_id ?_ | exact True.intro | omega | exact sl_1 | exact sl_2 hs hy | exact sl_3 hs hy | (have := yw hs hy; omega) | (rw [SG_len]; have := yw hs hy; omega)))
    refine V_cond (evs ?_)
    refine ⟨fun hc => ?_, fun hc => ?_⟩
    · refine WA_seq (x := (fcd Try.f76 [1, 1, 0, 1, 1, 0, 0])) (y := (fcd Try.f76 [1, 1, 0, 1, 1, 0, 1])) ?_
      refine V_regionX Γ Δ [65] [0, 1, 2, 5, 6, 7, 8, 9, 10, 11, 12, 13, 14, 15, 16, 17, 18, 23, 29, 33, 52, 53, 54, 78, 79, 89, 95, 96, 97, 98] (evs ?_)
      all_goals (try with_reducible (repeat' (first | apply And.intro | intro _)))
      all_goals (try (first | with_reducible refine wa_id ?_ | exact True.intro | omega | exact sl_1 | exact sl_2 hs hy | exact sl_3 hs hy | (have := yw hs hy; omega) | (rw [SG_len]; have := yw hs hy; omega)))
      refine V_ret (evs ?_)
      first | exact bk0 _ (mkE1 hc) | exact bk0 _ (mkE2 ‹_› hc) | exact bk0 _ (mkE3 ‹_› ‹_› hc) | exact bk _ (cm4 hk ha he hQ.1 hc)
    · refine WA_skip ?_
      refine WA_seq (x := (fcd Try.f76 [1, 1, 1, 0])) (y := (fcd Try.f76 [1, 1, 1, 1])) ?_
      refine WA_seq (x := (fcd Try.f76 [1, 1, 1, 0, 0])) (y := (fcd Try.f76 [1, 1, 1, 0, 1])) ?_
      refine V_regionX Γ Δ [65] [0, 1, 2, 5, 6, 7, 8, 9, 10, 11, 12, 13, 14, 15, 16, 17, 18, 23, 29, 33, 52, 53, 54, 78, 79, 89, 95, 96, 97, 98] (evs ?_)
      all_goals (try with_reducible (repeat' (first | apply And.intro | intro _)))
      all_goals (try (first | with_reducible refine wa_id ?_ | exact True.intro | exact empty_fn _ | omega | exact sl_1 | exact sl_2 hs hy | exact sl_3 hs hy | (have := yw hs hy; omega) | (rw [SG_len]; have := yw hs hy; omega)))
      refine V_cond (evs ?_)
      refine ⟨fun hc => ?_, fun hc => ?_⟩
      · refine WA_seq (x := (fcd Try.f76 [1, 1, 1, 0, 1, 0, 0])) (y := (fcd Try.f76 [1, 1, 1, 0, 1, 0, 1])) ?_
        refine V_regionX Γ Δ [65] [0, 1, 2, 5, 6, 7, 8, 9, 10, 11, 12, 13, 14, 15, 16, 17, 18, 23, 29, 33, 52, 53, 54, 78, 79, 89, 95, 96, 97, 98] (evs ?_)
        all_goals (try with_reducible (repeat' (first | apply And.intro | intro _)))
        all_goals (try (first | with_reducible refine wa_id ?_ | exact True.intro | omega | exact sl_1 | exact sl_2 hs hy | exact sl_3 hs hy | (have := yw hs hy; omega) | (rw [SG_len]; have := yw hs hy; omega)))
        refine V_ret (evs ?_)
        first | exact bk0 _ (mkE1 hc) | exact bk0 _ (mkE2 ‹_› hc) | exact bk0 _ (mkE3 ‹_› ‹_› hc) | exact bk _ (cm4 hk ha he hQ.1 hc)
      · refine WA_skip ?_
        refine WA_seq (x := (fcd Try.f76 [1, 1, 1, 1, 0])) (y := (fcd Try.f76 [1, 1, 1, 1, 1])) ?_
        refine V_draw Γ [65] [0, 1, 2, 5, 6, 7, 8, 9, 10, 11, 12, 13, 14, 15, 16, 17, 18, 23, 29, 33, 52, 53, 54, 78, 79, 89, 95, 96, 97, 98] mixed (by kernel_rfl) (evs ?_)
        have hk := ‹checkE ps rule = 0›
        have ha := ‹areaE r = 0›
        have he := ‹emptyB r = false›
        have hs : Sz r := area_sz ha he
        have hv := (check_any hk).1
        have hN := NN_bd hs
        simp only [mN hs, Int.toNat_natCast]
        all_goals (try with_reducible (repeat' (first | apply And.intro | intro _)))
        all_goals (try (first | with_reducible refine wa_id ?_ | exact True.intro | omega | exact sl_1 | exact sl_2 hs hy | exact sl_3 hs hy | (have := yw hs hy; omega) | (rw [SG_len]; have := yw hs hy; omega)))
        refine WA_seq (x := (fcd Try.f76 [1, 1, 1, 1, 1, 0])) (y := (fcd Try.f76 [1, 1, 1, 1, 1, 1])) ?_
        refine V_regionX Γ Δ [65] [0, 1, 2, 5, 6, 7, 8, 9, 10, 11, 12, 13, 14, 15, 16, 17, 18, 23, 29, 33, 52, 53, 54, 78, 79, 89, 95, 96, 97, 98] (evs ?_)
        simp only [mT hs, Int.toNat_natCast]
        all_goals (try with_reducible (repeat' (first | apply And.intro | intro _)))
        all_goals (try (first | with_reducible refine wa_id ?_ | exact True.intro | omega | exact sl_1 | exact sl_2 hs hy | exact sl_3 hs hy | (have := yw hs hy; omega) | (rw [SG_len]; have := yw hs hy; omega)))
        refine WA_seq (x := (fcd Try.f76 [1, 1, 1, 1, 1, 1, 0])) (y := (fcd Try.f76 [1, 1, 1, 1, 1, 1, 1])) ?_
        refine WA_seq (x := (fcd Try.f76 [1, 1, 1, 1, 1, 1, 0, 0])) (y := (fcd Try.f76 [1, 1, 1, 1, 1, 1, 0, 1])) ?_
        refine V_regionX Γ Δ [65] [0, 1, 2, 5, 6, 7, 8, 9, 10, 11, 12, 13, 14, 15, 16, 17, 18, 23, 29, 33, 52, 53, 54, 78, 79, 89, 95, 96, 97, 98] (evs ?_)
        all_goals (try with_reducible (repeat' (first | apply And.intro | intro _)))
        all_goals (try (first | with_reducible refine wa_id ?_ | exact True.intro | omega | exact sl_1 | exact sl_2 hs hy | exact sl_3 hs hy | (have := yw hs hy; omega) | (rw [SG_len]; have := yw hs hy; omega)))
        refine WA_block (c := (fcd Try.f76 [1, 1, 1, 1, 1, 1, 0, 1, 0])) ?_
        refine V_loop (c := (fcd Try.f76 [1, 1, 1, 1, 1, 1, 0, 1, 0, 0])) (α := Nat × List Int) [12, 13, 14, 15, 16, 17, 18, 53, 54, 78, 79, 89, 95, 96, 97, 98] [44, 50, 16500, 16501, 16502, 16503, 18900, 18901, 18902, 18903, 19300, 19301, 19302, 19303, 20600, 20601, 20602, 20603] (fun q => [(53, .dat (.i (q.1 : Int)))]) (fun q => [(44, some (true, .arr 3 1 ((SF ps rule r q.1 0).map iC))), (50, some (true, .arr 3 1 (q.2.map iC)))]) (fun q => q.1 ≤ r.h.toNat ∧ q.2.length = 16 * r.w.toNat + 1) (fun q => r.h.toNat - q.1) (0, List.replicate (16 * r.w.toNat + 1) 0) [] ?_ (evs ?_) ?_
        · exact ⟨Nat.zero_le _, by simp⟩
        · (try with_reducible (repeat' (first | apply And.intro | intro _)))
          all_goals (first | exact True.intro | omega | (first | (rw [ms0 ps rule]) | rfl))
        · intro q hQ
          refine WA_seq (x := (fcd Try.f76 [1, 1, 1, 1, 1, 1, 0, 1, 0, 0, 0])) (y := (fcd Try.f76 [1, 1, 1, 1, 1, 1, 0, 1, 0, 0, 1])) ?_
          refine V_regionX Γ Δ [65] [0, 1, 2, 5, 6, 7, 8, 9, 10, 11, 12, 13, 14, 15, 16, 17, 18, 23, 29, 33, 52, 53, 54, 78, 79, 89, 95, 96, 97, 98] (evs ?_)
          all_goals (try with_reducible (repeat' (first | apply And.intro | intro _)))
          all_goals (try (first | with_reducible refine wa_id ?_ | exact True.intro | omega | exact sl_1 | exact sl_2 hs hy | exact sl_3 hs hy | (have := yw hs hy; omega) | (rw [SG_len]; have := yw hs hy; omega)))
          refine WA_seq (x := (fcd Try.f76 [1, 1, 1, 1, 1, 1, 0, 1, 0, 0, 1, 0])) (y := (fcd Try.f76 [1, 1, 1, 1, 1, 1, 0, 1, 0, 0, 1, 1])) ?_
          refine V_cond (evs ?_)
          refine ⟨fun hc => ?_, fun hc => ?_⟩
          · refine WA_skip ?_
            refine WA_seq (x := (fcd Try.f76 [1, 1, 1, 1, 1, 1, 0, 1, 0, 0, 1, 1, 0])) (y := (fcd Try.f76 [1, 1, 1, 1, 1, 1, 0, 1, 0, 0, 1, 1, 1])) ?_
            refine WA_block (c := (fcd Try.f76 [1, 1, 1, 1, 1, 1, 0, 1, 0, 0, 1, 1, 0, 0])) ?_
            refine WA_seq (x := (fcd Try.f76 [1, 1, 1, 1, 1, 1, 0, 1, 0, 0, 1, 1, 0, 0, 0])) (y := (fcd Try.f76 [1, 1, 1, 1, 1, 1, 0, 1, 0, 0, 1, 1, 0, 0, 1])) ?_
            refine V_regionX Γ Δ [65] [0, 1, 2, 5, 6, 7, 8, 9, 10, 11, 12, 13, 14, 15, 16, 17, 18, 23, 29, 33, 52, 53, 54, 78, 79, 89, 95, 96, 97, 98] (evs ?_)
            all_goals (try with_reducible (repeat' (first | apply And.intro | intro _)))
            all_goals (try (first | with_reducible refine wa_id ?_ | exact True.intro | omega | exact sl_1 | exact sl_2 hs hy | exact sl_3 hs hy | (have := yw hs hy; omega) | (rw [SG_len]; have := yw hs hy; omega)))
            refine WA_seq (x := (fcd Try.f76 [1, 1, 1, 1, 1, 1, 0, 1, 0, 0, 1, 1, 0, 0, 1, 0])) (y := (fcd Try.f76 [1, 1, 1, 1, 1, 1, 0, 1, 0, 0, 1, 1, 0, 0, 1, 1])) ?_
            refine V_regionX Γ Δ [65] [0, 1, 2, 5, 6, 7, 8, 9, 10, 11, 12, 13, 14, 15, 16, 17, 18, 23, 29, 33, 52, 53, 54, 78, 79, 89, 95, 96, 97, 98] (evs ?_)
            have hy := ‹(q.1 : Int) < r.h›
            simp (disch := omega) only [w64]
            all_goals (try with_reducible (repeat' (first | apply And.intro | intro _)))
            all_goals (try (first | with_reducible refine wa_id ?_ | exact True.intro | omega | exact sl_1 | exact sl_2 hs hy | exact sl_3 hs hy | (have := yw hs hy; omega) | (rw [SG_len]; have := yw hs hy; omega)))
            refine WA_seq (x := (fcd Try.f76 [1, 1, 1, 1, 1, 1, 0, 1, 0, 0, 1, 1, 0, 0, 1, 1, 0])) (y := (fcd Try.f76 [1, 1, 1, 1, 1, 1, 0, 1, 0, 0, 1, 1, 0, 0, 1, 1, 1])) ?_
            refine V_regionX Γ Δ [65] [0, 1, 2, 5, 6, 7, 8, 9, 10, 11, 12, 13, 14, 15, 16, 17, 18, 23, 29, 33, 52, 53, 54, 78, 79, 89, 95, 96, 97, 98] (evs ?_)
            simp (disch := omega) only [w64]
            all_goals (try with_reducible (repeat' (first | apply And.intro | intro _)))
            all_goals (try (first | with_reducible refine wa_id ?_ | exact True.intro | exact edges_fn _ _ _ hv | omega | exact sl_1 | exact sl_2 hs hy | exact sl_3 hs hy | (have := yw hs hy; omega) | (rw [SG_len]; have := yw hs hy; omega)))
            refine WA_seq (x := (fcd Try.f76 [1, 1, 1, 1, 1, 1, 0, 1, 0, 0, 1, 1, 0, 0, 1, 1, 1, 0])) (y := (fcd Try.f76 [1, 1, 1, 1, 1, 1, 0, 1, 0, 0, 1, 1, 0, 0, 1, 1, 1, 1])) ?_
            refine V_regionX Γ Δ [65] [0, 1, 2, 5, 6, 7, 8, 9, 10, 11, 12, 13, 14, 15, 16, 17, 18, 23, 29, 33, 52, 53, 54, 78, 79, 89, 95, 96, 97, 98] (evs ?_)
            simp only [mLo hs hy, mHi hs hy, Int.toNat_natCast, rowW]
            all_goals (try with_reducible (repeat' (first | apply And.intro | intro _)))
            all_goals (try (first | with_reducible refine wa_id ?_ | exact True.intro | omega | exact sl_1 | exact sl_2 hs hy | exact sl_3 hs hy | (have := yw hs hy; omega) | (rw [SG_len]; have := yw hs hy; omega)))
            refine WA_seq (x := (fcd Try.f76 [1, 1, 1, 1, 1, 1, 0, 1, 0, 0, 1, 1, 0, 0, 1, 1, 1, 1, 0])) (y := (fcd Try.f76 [1, 1, 1, 1, 1, 1, 0, 1, 0, 0, 1, 1, 0, 0, 1, 1, 1, 1, 1])) ?_
            refine WA_seq (x := (fcd Try.f76 [1, 1, 1, 1, 1, 1, 0, 1, 0, 0, 1, 1, 0, 0, 1, 1, 1, 1, 0, 0])) (y := (fcd Try.f76 [1, 1, 1, 1, 1, 1, 0, 1, 0, 0, 1, 1, 0, 0, 1, 1, 1, 1, 0, 1])) ?_
            refine V_regionX Γ Δ [65] [0, 1, 2, 5, 6, 7, 8, 9, 10, 11, 12, 13, 14, 15, 16, 17, 18, 23, 29, 33, 52, 53, 54, 78, 79, 89, 95, 96, 97, 98] (evs ?_)
            all_goals (try with_reducible (repeat' (first | apply And.intro | intro _)))
            all_goals (try (first | with_reducible refine wa_id ?_ | exact True.intro | omega | exact sl_1 | exact sl_2 hs hy | exact sl_3 hs hy | (have := yw hs hy; omega) | (rw [SG_len]; have := yw hs hy; omega)))
            refine WA_block (c := (fcd Try.f76 [1, 1, 1, 1, 1, 1, 0, 1, 0, 0, 1, 1, 0, 0, 1, 1, 1, 1, 0, 1, 0])) ?_
            refine V_loop (c := (fcd Try.f76 [1, 1, 1, 1, 1, 1, 0, 1, 0, 0, 1, 1, 0, 0, 1, 1, 1, 1, 0, 1, 0, 0])) (α := Nat × List Int) [16, 78, 79, 89] [44, 50, 18900, 18901, 18902, 18903, 19300, 19301, 19302, 19303] (fun z => [(78, .dat (.i (z.1 : Int)))]) (fun z => [(44, some (true, .arr 3 1 ((SF ps rule r q.1 z.1).map iC))), (50, some (true, .arr 3 1 (z.2.map iC)))]) (fun z => z.1 ≤ 16 ∧ z.2.length = 16 * r.w.toNat + 1) (fun z => 16 - z.1) (0, q.2) [] ?_ (evs ?_) ?_
            · exact ⟨Nat.zero_le _, hQ.2⟩
            · (try with_reducible (repeat' (first | apply And.intro | intro _)))
              all_goals (first | exact True.intro | omega | (first | rfl))
            · intro z hZ
              refine WA_seq (x := (fcd Try.f76 [1, 1, 1, 1, 1, 1, 0, 1, 0, 0, 1, 1, 0, 0, 1, 1, 1, 1, 0, 1, 0, 0, 0])) (y := (fcd Try.f76 [1, 1, 1, 1, 1, 1, 0, 1, 0, 0, 1, 1, 0, 0, 1, 1, 1, 1, 0, 1, 0, 0, 1])) ?_
              refine V_regionX Γ Δ [65] [0, 1, 2, 5, 6, 7, 8, 9, 10, 11, 12, 13, 14, 15, 16, 17, 18, 23, 29, 33, 52, 53, 54, 78, 79, 89, 95, 96, 97, 98] (evs ?_)
              all_goals (try with_reducible (repeat' (first | apply And.intro | intro _)))
              all_goals (try (first | with_reducible refine wa_id ?_ | exact True.intro | omega | exact sl_1 | exact sl_2 hs hy | exact sl_3 hs hy | (have := yw hs hy; omega) | (rw [SG_len]; have := yw hs hy; omega)))
              refine WA_seq (x := (fcd Try.f76 [1, 1, 1, 1, 1, 1, 0, 1, 0, 0, 1, 1, 0, 0, 1, 1, 1, 1, 0, 1, 0, 0, 1, 0])) (y := (fcd Try.f76 [1, 1, 1, 1, 1, 1, 0, 1, 0, 0, 1, 1, 0, 0, 1, 1, 1, 1, 0, 1, 0, 0, 1, 1])) ?_
              refine V_cond (evs ?_)
              refine ⟨fun hc => ?_, fun hc => ?_⟩
              · refine WA_skip ?_
                refine WA_seq (x := (fcd Try.f76 [1, 1, 1, 1, 1, 1, 0, 1, 0, 0, 1, 1, 0, 0, 1, 1, 1, 1, 0, 1, 0, 0, 1, 1, 0])) (y := (fcd Try.f76 [1, 1, 1, 1, 1, 1, 0, 1, 0, 0, 1, 1, 0, 0, 1, 1, 1, 1, 0, 1, 0, 0, 1, 1, 1])) ?_
                refine WA_block (c := (fcd Try.f76 [1, 1, 1, 1, 1, 1, 0, 1, 0, 0, 1, 1, 0, 0, 1, 1, 1, 1, 0, 1, 0, 0, 1, 1, 0, 0])) ?_
                refine WA_seq (x := (fcd Try.f76 [1, 1, 1, 1, 1, 1, 0, 1, 0, 0, 1, 1, 0, 0, 1, 1, 1, 1, 0, 1, 0, 0, 1, 1, 0, 0, 0])) (y := (fcd Try.f76 [1, 1, 1, 1, 1, 1, 0, 1, 0, 0, 1, 1, 0, 0, 1, 1, 1, 1, 0, 1, 0, 0, 1, 1, 0, 0, 1])) ?_
                refine V_regionX Γ Δ [65] [0, 1, 2, 5, 6, 7, 8, 9, 10, 11, 12, 13, 14, 15, 16, 17, 18, 23, 29, 33, 52, 53, 54, 78, 79, 89, 95, 96, 97, 98] (evs ?_)
                all_goals (try with_reducible (repeat' (first | apply And.intro | intro _)))
                all_goals (try (first | with_reducible refine wa_id ?_ | exact True.intro | omega | exact sl_1 | exact sl_2 hs hy | exact sl_3 hs hy | (have := yw hs hy; omega) | (rw [SG_len]; have := yw hs hy; omega)))
                refine WA_seq (x := (fcd Try.f76 [1, 1, 1, 1, 1, 1, 0, 1, 0, 0, 1, 1, 0, 0, 1, 1, 1, 1, 0, 1, 0, 0, 1, 1, 0, 0, 1, 0])) (y := (fcd Try.f76 [1, 1, 1, 1, 1, 1, 0, 1, 0, 0, 1, 1, 0, 0, 1, 1, 1, 1, 0, 1, 0, 0, 1, 1, 0, 0, 1, 1])) ?_
                refine V_regionX Γ Δ [65] [0, 1, 2, 5, 6, 7, 8, 9, 10, 11, 12, 13, 14, 15, 16, 17, 18, 23, 29, 33, 52, 53, 54, 78, 79, 89, 95, 96, 97, 98] (evs ?_)
                have hj := ‹(z.1 : Int) < 16›
                simp (disch := omega) only [w64]
                all_goals (try with_reducible (repeat' (first | apply And.intro | intro _)))
                all_goals (try (first | with_reducible refine wa_id ?_ | exact True.intro | exact wind_fn _ _ _ _ _ (fun s hs => edges_ok hv hs) (by unfold XOk; omega) (by unfold XOk; omega) hZ.2 (by omega) (by omega) | omega | exact sl_1 | exact sl_2 hs hy | exact sl_3 hs hy | (have := yw hs hy; omega) | (rw [SG_len]; have := yw hs hy; omega)))
                refine V_cond (evs ?_)
                refine ⟨fun hc => ?_, fun hc => ?_⟩
                · refine V_regionX Γ Δ [65] [0, 1, 2, 5, 6, 7, 8, 9, 10, 11, 12, 13, 14, 15, 16, 17, 18, 23, 29, 33, 52, 53, 54, 78, 79, 89, 95, 96, 97, 98] (evs ?_)
                  all_goals (try with_reducible (repeat' (first | apply And.intro | intro _)))
                  all_goals (try (first | with_reducible refine wa_id ?_ | exact True.intro | exact count_fn _ _ _ _ _ (check_any hk).2 (windL_len _ _ _ _) (by rw [SF_len]; have := yw hs hy; omega) (ps_bd hv) (sf_bd _ _ _ _ _ hZ.1) (by omega) | omega | exact sl_1 | exact sl_2 hs hy | exact sl_3 hs hy | (have := yw hs hy; omega) | (rw [SG_len]; have := yw hs hy; omega)))
                  refine V_regionX Γ Δ [65] [0, 1, 2, 5, 6, 7, 8, 9, 10, 11, 12, 13, 14, 15, 16, 17, 18, 23, 29, 33, 52, 53, 54, 78, 79, 89, 95, 96, 97, 98] (evs ?_)
                  all_goals (try with_reducible (repeat' (first | apply And.intro | intro _)))
                  all_goals (try (first | with_reducible refine wa_id ?_ | exact True.intro | omega | exact sl_1 | exact sl_2 hs hy | exact sl_3 hs hy | (have := yw hs hy; omega) | (rw [SG_len]; have := yw hs hy; omega)))
                  refine V_next [] (z.1 + 1, (windL (edgesL ps (16 * (r.y + q.1)) ((16 * (r.y + q.1)) + 16)) ((16 * (r.y + q.1)) + z.1) (16 * r.x) (16 * r.w.toNat + 1))) (evs ?_) ?_ ?_
                  all_goals (try with_reducible (repeat' (first | apply And.intro | intro _)))
                  all_goals (first | exact True.intro | omega | (first | exact w64l (n := 16) (by omega) (by omega) | (rw [ms1 rfl (by omega) (by omega)]) | (rw [ms2 rfl (by omega) hc]) | rfl | exact windL_len _ _ _ _))
                · refine WA_skip ?_
                  refine V_regionX Γ Δ [65] [0, 1, 2, 5, 6, 7, 8, 9, 10, 11, 12, 13, 14, 15, 16, 17, 18, 23, 29, 33, 52, 53, 54, 78, 79, 89, 95, 96, 97, 98] (evs ?_)
                  all_goals (try with_reducible (repeat' (first | apply And.intro | intro _)))
                  all_goals (try (first | with_reducible refine wa_id ?_ | exact True.intro | omega | exact sl_1 | exact sl_2 hs hy | exact sl_3 hs hy | (have := yw hs hy; omega) | (rw [SG_len]; have := yw hs hy; omega)))
                  refine V_next [] (z.1 + 1, (windL (edgesL ps (16 * (r.y + q.1)) ((16 * (r.y + q.1)) + 16)) ((16 * (r.y + q.1)) + z.1) (16 * r.x) (16 * r.w.toNat + 1))) (evs ?_) ?_ ?_
                  all_goals (try with_reducible (repeat' (first | apply And.intro | intro _)))
                  all_goals (first | exact True.intro | omega | (first | exact w64l (n := 16) (by omega) (by omega) | (rw [ms1 rfl (by omega) (by omega)]) | (rw [ms2 rfl (by omega) hc]) | rfl | exact windL_len _ _ _ _))
              · refine V_exit (evs ?_)
                refine WA_seq (x := (fcd Try.f76 [1, 1, 1, 1, 1, 1, 0, 1, 0, 0, 1, 1, 0, 0, 1, 1, 1, 1, 1, 0])) (y := (fcd Try.f76 [1, 1, 1, 1, 1, 1, 0, 1, 0, 0, 1, 1, 0, 0, 1, 1, 1, 1, 1, 1])) ?_
                refine V_regionX Γ Δ [65] [0, 1, 2, 5, 6, 7, 8, 9, 10, 11, 12, 13, 14, 15, 16, 17, 18, 23, 29, 33, 52, 53, 54, 78, 79, 89, 95, 96, 97, 98] (evs ?_)
                all_goals (try with_reducible (repeat' (first | apply And.intro | intro _)))
                all_goals (try (first | with_reducible refine wa_id ?_ | exact True.intro | omega | exact sl_1 | exact sl_2 hs hy | exact sl_3 hs hy | (have := yw hs hy; omega) | (rw [SG_len]; have := yw hs hy; omega)))
                refine WA_block (c := (fcd Try.f76 [1, 1, 1, 1, 1, 1, 0, 1, 0, 0, 1, 1, 0, 0, 1, 1, 1, 1, 1, 1, 0])) ?_
                refine V_loop (c := (fcd Try.f76 [1, 1, 1, 1, 1, 1, 0, 1, 0, 0, 1, 1, 0, 0, 1, 1, 1, 1, 1, 1, 0, 0])) (α := Nat) [17, 18, 97, 98] [44, 20600, 20601, 20602, 20603] (fun x => [(97, .dat (.i (x : Int)))]) (fun x => [(44, some (true, .arr 3 1 ((SG ps rule r q.1 x).map iC)))]) (fun x => x ≤ r.w.toNat) (fun x => r.w.toNat - x) 0 [] ?_ (evs ?_) ?_
                · exact Nat.zero_le _
                · (try with_reducible (repeat' (first | apply And.intro | intro _)))
                  all_goals (first | exact True.intro | omega | (first | (rw [ms3 hZ.1 hc]) | rfl))
                · intro x hX
                  refine WA_seq (x := (fcd Try.f76 [1, 1, 1, 1, 1, 1, 0, 1, 0, 0, 1, 1, 0, 0, 1, 1, 1, 1, 1, 1, 0, 0, 0])) (y := (fcd Try.f76 [1, 1, 1, 1, 1, 1, 0, 1, 0, 0, 1, 1, 0, 0, 1, 1, 1, 1, 1, 1, 0, 0, 1])) ?_
                  refine V_regionX Γ Δ [65] [0, 1, 2, 5, 6, 7, 8, 9, 10, 11, 12, 13, 14, 15, 16, 17, 18, 23, 29, 33, 52, 53, 54, 78, 79, 89, 95, 96, 97, 98] (evs ?_)
                  all_goals (try with_reducible (repeat' (first | apply And.intro | intro _)))
                  all_goals (try (first | with_reducible refine wa_id ?_ | exact True.intro | omega | exact sl_1 | exact sl_2 hs hy | exact sl_3 hs hy | (have := yw hs hy; omega) | (rw [SG_len]; have := yw hs hy; omega)))
                  refine WA_seq (x := (fcd Try.f76 [1, 1, 1, 1, 1, 1, 0, 1, 0, 0, 1, 1, 0, 0, 1, 1, 1, 1, 1, 1, 0, 0, 1, 0])) (y := (fcd Try.f76 [1, 1, 1, 1, 1, 1, 0, 1, 0, 0, 1, 1, 0, 0, 1, 1, 1, 1, 1, 1, 0, 0, 1, 1])) ?_
                  refine V_cond (evs ?_)
                  refine ⟨fun hc => ?_, fun hc => ?_⟩
                  · refine WA_skip ?_
                    refine WA_seq (x := (fcd Try.f76 [1, 1, 1, 1, 1, 1, 0, 1, 0, 0, 1, 1, 0, 0, 1, 1, 1, 1, 1, 1, 0, 0, 1, 1, 0])) (y := (fcd Try.f76 [1, 1, 1, 1, 1, 1, 0, 1, 0, 0, 1, 1, 0, 0, 1, 1, 1, 1, 1, 1, 0, 0, 1, 1, 1])) ?_
                    refine WA_block (c := (fcd Try.f76 [1, 1, 1, 1, 1, 1, 0, 1, 0, 0, 1, 1, 0, 0, 1, 1, 1, 1, 1, 1, 0, 0, 1, 1, 0, 0])) ?_
                    refine WA_seq (x := (fcd Try.f76 [1, 1, 1, 1, 1, 1, 0, 1, 0, 0, 1, 1, 0, 0, 1, 1, 1, 1, 1, 1, 0, 0, 1, 1, 0, 0, 0])) (y := (fcd Try.f76 [1, 1, 1, 1, 1, 1, 0, 1, 0, 0, 1, 1, 0, 0, 1, 1, 1, 1, 1, 1, 0, 0, 1, 1, 0, 0, 1])) ?_
                    refine V_regionX Γ Δ [65] [0, 1, 2, 5, 6, 7, 8, 9, 10, 11, 12, 13, 14, 15, 16, 17, 18, 23, 29, 33, 52, 53, 54, 78, 79, 89, 95, 96, 97, 98] (evs ?_)
                    have hx := ‹(x : Int) < _›
                    simp only [(SG_at (ps := ps) (rule := rule) (show q.1 < r.h.toNat by omega) (show x < r.w.toNat by omega)).1]
                    all_goals (try with_reducible (repeat' (first | apply And.intro | intro _)))
                    all_goals (try (first | with_reducible refine wa_id ?_ | exact True.intro | omega | exact sl_1 | exact sl_2 hs hy | exact sl_3 hs hy | (have := yw hs hy; omega) | (rw [SG_len]; have := yw hs hy; omega)))
                    refine V_regionX Γ Δ [65] [0, 1, 2, 5, 6, 7, 8, 9, 10, 11, 12, 13, 14, 15, 16, 17, 18, 23, 29, 33, 52, 53, 54, 78, 79, 89, 95, 96, 97, 98] (evs ?_)
                    simp only [cn_w.1]
                    have hd := (cn_w (ps := ps) (rule := rule) (x := r.x + (x : Int)) (y := r.y + (q.1 : Int))).2
                    all_goals (try with_reducible (repeat' (first | apply And.intro | intro _)))
                    all_goals (try (first | with_reducible refine wa_id ?_ | exact True.intro | exact div_fn _ _ (by omega) (by omega) (by omega) (by omega) | omega | exact sl_1 | exact sl_2 hs hy | exact sl_3 hs hy | (have := yw hs hy; omega) | (rw [SG_len]; have := yw hs hy; omega)))
                    refine V_regionX Γ Δ [65] [0, 1, 2, 5, 6, 7, 8, 9, 10, 11, 12, 13, 14, 15, 16, 17, 18, 23, 29, 33, 52, 53, 54, 78, 79, 89, 95, 96, 97, 98] (evs ?_)
                    all_goals (try with_reducible (repeat' (first | apply And.intro | intro _)))
                    all_goals (try (first | with_reducible refine wa_id ?_ | exact True.intro | omega | exact sl_1 | exact sl_2 hs hy | exact sl_3 hs hy | (have := yw hs hy; omega) | (rw [SG_len]; have := yw hs hy; omega)))
                    refine V_next [] (x + 1) (evs ?_) ?_ ?_
                    all_goals (try with_reducible (repeat' (first | apply And.intro | intro _)))
                    all_goals (first | exact True.intro | omega | (first | exact w64l (n := 256) (by omega) (by omega) | (rw [ms4 (by omega) (by omega)])))
                  · refine V_exit (evs ?_)
                    refine V_regionX Γ Δ [65] [0, 1, 2, 5, 6, 7, 8, 9, 10, 11, 12, 13, 14, 15, 16, 17, 18, 23, 29, 33, 52, 53, 54, 78, 79, 89, 95, 96, 97, 98] (evs ?_)
                    all_goals (try with_reducible (repeat' (first | apply And.intro | intro _)))
                    all_goals (try (first | with_reducible refine wa_id ?_ | exact True.intro | omega | exact sl_1 | exact sl_2 hs hy | exact sl_3 hs hy | (have := yw hs hy; omega) | (rw [SG_len]; have := yw hs hy; omega)))
                    refine V_next [] (q.1 + 1, z.2) (evs ?_) ?_ ?_
                    all_goals (try with_reducible (repeat' (first | apply And.intro | intro _)))
                    all_goals (first | exact True.intro | omega | (first | exact w64l (n := 256) (by omega) (by omega) | (rw [ms5 (by omega)]) | exact hZ.2))
          · refine V_exit (evs ?_)
            refine WA_seq (x := (fcd Try.f76 [1, 1, 1, 1, 1, 1, 1, 0])) (y := (fcd Try.f76 [1, 1, 1, 1, 1, 1, 1, 1])) ?_
            refine V_regionX Γ Δ [65] [0, 1, 2, 5, 6, 7, 8, 9, 10, 11, 12, 13, 14, 15, 16, 17, 18, 23, 29, 33, 52, 53, 54, 78, 79, 89, 95, 96, 97, 98] (evs ?_)
            all_goals (try with_reducible (repeat' (first | apply And.intro | intro _)))
            all_goals (try (first | with_reducible refine wa_id ?_ | exact True.intro | omega | exact sl_1 | exact sl_2 hs hy | exact sl_3 hs hy | (have := yw hs hy; omega) | (rw [SG_len]; have := yw hs hy; omega)))
            refine V_ret (evs ?_)
            first | exact bk0 _ (mkE1 hc) | exact bk0 _ (mkE2 ‹_› hc) | exact bk0 _ (mkE3 ‹_› ‹_› hc) | exact bk _ (cm4 hk ha he hQ.1 hc)

end Go.S23

