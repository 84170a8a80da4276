import Derived.Test.YtgfebadcjjifdaaA15
namespace Go.S20
open Go.RowKit Go.Proofs Go.Eng Go.Rect
set_option maxHeartbeats 2000000 in
set_option maxRecDepth 100000 in
/-- imageeditor/imageeditorlaw20.CoverTurns -/
theorem l_turns (ps : List (List Pt)) (rule : Int) (r : Rc) (h1 : ps.length * 24 ≤ 140737488355328) (h2 : ∀ p ∈ ps, p.length ≤ 8796093022208) : Eng.Fn Try.prog 6 [.sl 1 (ps.map plyC), .i rule, rcD r] (.dat (.b true)) := by
  refine Eng.Fn.by (fn := Try.f6) 118 [.tmp 6] Try.func6 rfl Try.ntmps6 rfl (by simp) fun w0 => ?_
  refine WA_seq (x := (fcd Try.f6 [0])) (y := (fcd Try.f6 [1])) ?_
  refine V_regionX Γ Δ [40, 51, 69, 73, 80, 87, 94] [0, 1, 2, 5, 6, 7, 8, 10, 11, 12, 13, 14, 15, 16, 17, 18, 19, 20, 21, 22, 23, 27, 28, 29, 66] (evs ?_)
  all_goals (try with_reducible (repeat' (first | apply And.intro | intro _)))
  all_goals (try (first | with_reducible refine wa_id ?_ | exact True.intro | omega | exact nx2 ‹_› | exact nx3 | (rw [RQ_len hI]; have := getB h2 j; omega) | (rw [SQ_len hI]; have := getB h2 j; omega) | (rw [RV_len hJ]; omega) | (rw [SV_len hJ]; omega) | exact RQ_len hI | exact SQ_len hI | exact RV_len hJ | exact SV_len hJ))
  refine WA_seq (x := (fcd Try.f6 [1, 0])) (y := (fcd Try.f6 [1, 1])) ?_
  refine V_regionX Γ Δ [40, 51, 69, 73, 80, 87, 94] [0, 1, 2, 5, 6, 7, 8, 10, 11, 12, 13, 14, 15, 16, 17, 18, 19, 20, 21, 22, 23, 27, 28, 29, 66] (evs ?_)
  all_goals (try with_reducible (repeat' (first | apply And.intro | intro _)))
  all_goals (try (first | with_reducible refine wa_id ?_ | exact True.intro | omega | exact nx2 ‹_› | exact nx3 | (rw [RQ_len hI]; have := getB h2 j; omega) | (rw [SQ_len hI]; have := getB h2 j; omega) | (rw [RV_len hJ]; omega) | (rw [SV_len hJ]; omega) | exact RQ_len hI | exact SQ_len hI | exact RV_len hJ | exact SV_len hJ))
  refine WA_seq (x := (fcd Try.f6 [1, 1, 0])) (y := (fcd Try.f6 [1, 1, 1])) ?_
  refine WA_seq (x := (fcd Try.f6 [1, 1, 0, 0])) (y := (fcd Try.f6 [1, 1, 0, 1])) ?_
  refine V_regionX Γ Δ [40, 51, 69, 73, 80, 87, 94] [0, 1, 2, 5, 6, 7, 8, 10, 11, 12, 13, 14, 15, 16, 17, 18, 19, 20, 21, 22, 23, 27, 28, 29, 66] (evs ?_)
  all_goals (try with_reducible (repeat' (first | apply And.intro | intro _)))
  all_goals (try (first | with_reducible refine wa_id ?_ | exact True.intro | omega | exact nx2 ‹_› | exact nx3 | (rw [RQ_len hI]; have := getB h2 j; omega) | (rw [SQ_len hI]; have := getB h2 j; omega) | (rw [RV_len hJ]; omega) | (rw [SV_len hJ]; omega) | exact RQ_len hI | exact SQ_len hI | exact RV_len hJ | exact SV_len hJ))
  refine WA_block (c := (fcd Try.f6 [1, 1, 0, 1, 0])) ?_
  refine V_loop (c := (fcd Try.f6 [1, 1, 0, 1, 0, 0])) (α := Nat) [6, 7, 8, 10, 11, 12, 13, 22, 23, 27, 28, 29, 66] [40, 41, 51, 52, 69, 70, 73, 74, 15500, 15501, 15502, 15503, 15700, 15701, 15702, 15703, 16200, 16201, 16202, 16203, 16400, 16401, 16402, 16403] (fun j => [(22, .dat (.i (j : Int))), (7, .vw 20000 0 (RV' ps j).length 1), (8, .vw 20002 0 (SV ps j).length 1)]) (fun j => [(20000, some (true, .arr 29 1 ((RV' ps j).map plyC))), (20002, some (true, .arr 29 1 ((SV ps j).map plyC)))]) (fun j => j ≤ ps.length) (fun j => ps.length - j) 0 [(20000, none), (20002, none)] ?_ (evs ?_) ?_
  · exact Nat.zero_le _
  · (try with_reducible (repeat' (first | apply And.intro | intro _)))
    all_goals (first | exact True.intro | omega | (first | rfl | simp [RV', SV]))
  · intro j hJ
    refine WA_seq (x := (fcd Try.f6 [1, 1, 0, 1, 0, 0, 0])) (y := (fcd Try.f6 [1, 1, 0, 1, 0, 0, 1])) ?_
    refine V_regionX Γ Δ [40, 51, 69, 73, 80, 87, 94] [0, 1, 2, 5, 6, 7, 8, 10, 11, 12, 13, 14, 15, 16, 17, 18, 19, 20, 21, 22, 23, 27, 28, 29, 66] (evs ?_)
    all_goals (try with_reducible (repeat' (first | apply And.intro | intro _)))
    all_goals (try (first | with_reducible refine wa_id ?_ | exact True.intro | omega | exact nx2 ‹_› | exact nx3 | (rw [RQ_len hI]; have := getB h2 j; omega) | (rw [SQ_len hI]; have := getB h2 j; omega) | (rw [RV_len hJ]; omega) | (rw [SV_len hJ]; omega) | exact RQ_len hI | exact SQ_len hI | exact RV_len hJ | exact SV_len hJ))
    refine WA_seq (x := (fcd Try.f6 [1, 1, 0, 1, 0, 0, 1, 0])) (y := (fcd Try.f6 [1, 1, 0, 1, 0, 0, 1, 1])) ?_
    refine V_cond (evs ?_)
    refine ⟨fun hc => ?_, fun hc => ?_⟩
    · refine WA_skip ?_
      refine WA_seq (x := (fcd Try.f6 [1, 1, 0, 1, 0, 0, 1, 1, 0])) (y := (fcd Try.f6 [1, 1, 0, 1, 0, 0, 1, 1, 1])) ?_
      refine WA_block (c := (fcd Try.f6 [1, 1, 0, 1, 0, 0, 1, 1, 0, 0])) ?_
      refine WA_seq (x := (fcd Try.f6 [1, 1, 0, 1, 0, 0, 1, 1, 0, 0, 0])) (y := (fcd Try.f6 [1, 1, 0, 1, 0, 0, 1, 1, 0, 0, 1])) ?_
      refine V_regionX Γ Δ [40, 51, 69, 73, 80, 87, 94] [0, 1, 2, 5, 6, 7, 8, 10, 11, 12, 13, 14, 15, 16, 17, 18, 19, 20, 21, 22, 23, 27, 28, 29, 66] (evs ?_)
      all_goals (try with_reducible (repeat' (first | apply And.intro | intro _)))
      all_goals (try (first | with_reducible refine wa_id ?_ | exact True.intro | omega | exact nx2 ‹_› | exact nx3 | (rw [RQ_len hI]; have := getB h2 j; omega) | (rw [SQ_len hI]; have := getB h2 j; omega) | (rw [RV_len hJ]; omega) | (rw [SV_len hJ]; omega) | exact RQ_len hI | exact SQ_len hI | exact RV_len hJ | exact SV_len hJ))
      refine WA_seq (x := (fcd Try.f6 [1, 1, 0, 1, 0, 0, 1, 1, 0, 0, 1, 0])) (y := (fcd Try.f6 [1, 1, 0, 1, 0, 0, 1, 1, 0, 0, 1, 1])) ?_
      refine V_regionX Γ Δ [40, 51, 69, 73, 80, 87, 94] [0, 1, 2, 5, 6, 7, 8, 10, 11, 12, 13, 14, 15, 16, 17, 18, 19, 20, 21, 22, 23, 27, 28, 29, 66] (evs ?_)
      all_goals (try with_reducible (repeat' (first | apply And.intro | intro _)))
      all_goals (try (first | with_reducible refine wa_id ?_ | exact True.intro | omega | exact nx2 ‹_› | exact nx3 | (rw [RQ_len hI]; have := getB h2 j; omega) | (rw [SQ_len hI]; have := getB h2 j; omega) | (rw [RV_len hJ]; omega) | (rw [SV_len hJ]; omega) | exact RQ_len hI | exact SQ_len hI | exact RV_len hJ | exact SV_len hJ))
      refine V_cut (x := (fcd Try.f6 [1, 1, 0, 1, 0, 0, 1, 1, 0, 0, 1, 1, 0])) (y := (fcd Try.f6 [1, 1, 0, 1, 0, 0, 1, 1, 0, 0, 1, 1, 1])) (α := Unit) [11, 12, 13, 27, 28, 29] [40, 41, 51, 52] (fun _ => [(11, .dat (.sl 2 ((ps.getD j []).reverse.map ptC))), (12, .dat (.sl 2 ((rotP (ps.getD j [])).map ptC)))]) (fun _ => []) (fun _ => True) ?_ ?_
      · refine WA_seq (x := (fcd Try.f6 [1, 1, 0, 1, 0, 0, 1, 1, 0, 0, 1, 1, 0, 0])) (y := (fcd Try.f6 [1, 1, 0, 1, 0, 0, 1, 1, 0, 0, 1, 1, 0, 1])) ?_
        refine V_regionX Γ Δ [40, 51, 69, 73, 80, 87, 94] [0, 1, 2, 5, 6, 7, 8, 10, 11, 12, 13, 14, 15, 16, 17, 18, 19, 20, 21, 22, 23, 27, 28, 29, 66] (evs ?_)
        all_goals (try with_reducible (repeat' (first | apply And.intro | intro _)))
        all_goals (try (first | with_reducible refine wa_id ?_ | exact True.intro | omega | exact nx2 ‹_› | exact nx3 | (rw [RQ_len hI]; have := getB h2 j; omega) | (rw [SQ_len hI]; have := getB h2 j; omega) | (rw [RV_len hJ]; omega) | (rw [SV_len hJ]; omega) | exact RQ_len hI | exact SQ_len hI | exact RV_len hJ | exact SV_len hJ))
        refine WA_block (c := (fcd Try.f6 [1, 1, 0, 1, 0, 0, 1, 1, 0, 0, 1, 1, 0, 1, 0])) ?_
        refine V_loop (c := (fcd Try.f6 [1, 1, 0, 1, 0, 0, 1, 1, 0, 0, 1, 1, 0, 1, 0, 0])) (α := Nat) [11, 12, 13, 28, 29] [40, 41, 51, 52] (fun i => [(28, .dat (.i (i : Int))), (11, .vw 20001 0 (RQ (ps.getD j []) i).length 2), (12, .vw 20003 0 (SQ (ps.getD j []) i).length 2)]) (fun i => [(20001, some (true, .arr 48 2 ((RQ (ps.getD j []) i).map ptC))), (20003, some (true, .arr 48 2 ((SQ (ps.getD j []) i).map ptC)))]) (fun i => i ≤ (ps.getD j []).length) (fun i => (ps.getD j []).length - i) 0 [(20001, none), (20003, none)] ?_ (evs ?_) ?_
        · exact Nat.zero_le _
        · (try with_reducible (repeat' (first | apply And.intro | intro _)))
          all_goals (first | exact True.intro | omega | (first | rfl | simp [RQ, SQ]))
        · intro i hI
          refine WA_seq (x := (fcd Try.f6 [1, 1, 0, 1, 0, 0, 1, 1, 0, 0, 1, 1, 0, 1, 0, 0, 0])) (y := (fcd Try.f6 [1, 1, 0, 1, 0, 0, 1, 1, 0, 0, 1, 1, 0, 1, 0, 0, 1])) ?_
          refine V_regionX Γ Δ [40, 51, 69, 73, 80, 87, 94] [0, 1, 2, 5, 6, 7, 8, 10, 11, 12, 13, 14, 15, 16, 17, 18, 19, 20, 21, 22, 23, 27, 28, 29, 66] (evs ?_)
          all_goals (try with_reducible (repeat' (first | apply And.intro | intro _)))
          all_goals (try (first | with_reducible refine wa_id ?_ | exact True.intro | omega | exact nx2 ‹_› | exact nx3 | (rw [RQ_len hI]; have := getB h2 j; omega) | (rw [SQ_len hI]; have := getB h2 j; omega) | (rw [RV_len hJ]; omega) | (rw [SV_len hJ]; omega) | exact RQ_len hI | exact SQ_len hI | exact RV_len hJ | exact SV_len hJ))
          refine WA_seq (x := (fcd Try.f6 [1, 1, 0, 1, 0, 0, 1, 1, 0, 0, 1, 1, 0, 1, 0, 0, 1, 0])) (y := (fcd Try.f6 [1, 1, 0, 1, 0, 0, 1, 1, 0, 0, 1, 1, 0, 1, 0, 0, 1, 1])) ?_
          refine V_cond (evs ?_)
          refine ⟨fun hc => ?_, fun hc => ?_⟩
          · refine WA_skip ?_
            refine WA_seq (x := (fcd Try.f6 [1, 1, 0, 1, 0, 0, 1, 1, 0, 0, 1, 1, 0, 1, 0, 0, 1, 1, 0])) (y := (fcd Try.f6 [1, 1, 0, 1, 0, 0, 1, 1, 0, 0, 1, 1, 0, 1, 0, 0, 1, 1, 1])) ?_
            refine WA_block (c := (fcd Try.f6 [1, 1, 0, 1, 0, 0, 1, 1, 0, 0, 1, 1, 0, 1, 0, 0, 1, 1, 0, 0])) ?_
            refine WA_seq (x := (fcd Try.f6 [1, 1, 0, 1, 0, 0, 1, 1, 0, 0, 1, 1, 0, 1, 0, 0, 1, 1, 0, 0, 0])) (y := (fcd Try.f6 [1, 1, 0, 1, 0, 0, 1, 1, 0, 0, 1, 1, 0, 1, 0, 0, 1, 1, 0, 0, 1])) ?_
            refine V_regionX Γ Δ [40, 51, 69, 73, 80, 87, 94] [0, 1, 2, 5, 6, 7, 8, 10, 11, 12, 13, 14, 15, 16, 17, 18, 19, 20, 21, 22, 23, 27, 28, 29, 66] (evs ?_)
            all_goals (try with_reducible (repeat' (first | apply And.intro | intro _)))
            all_goals (try (first | with_reducible refine wa_id ?_ | exact True.intro | omega | exact nx2 ‹_› | exact nx3 | (rw [RQ_len hI]; have := getB h2 j; omega) | (rw [SQ_len hI]; have := getB h2 j; omega) | (rw [RV_len hJ]; omega) | (rw [SV_len hJ]; omega) | exact RQ_len hI | exact SQ_len hI | exact RV_len hJ | exact SV_len hJ))
            refine WA_seq (x := (fcd Try.f6 [1, 1, 0, 1, 0, 0, 1, 1, 0, 0, 1, 1, 0, 1, 0, 0, 1, 1, 0, 0, 1, 0])) (y := (fcd Try.f6 [1, 1, 0, 1, 0, 0, 1, 1, 0, 0, 1, 1, 0, 1, 0, 0, 1, 1, 0, 0, 1, 1])) ?_
            refine V_regionX Γ Δ [40, 51, 69, 73, 80, 87, 94] [0, 1, 2, 5, 6, 7, 8, 10, 11, 12, 13, 14, 15, 16, 17, 18, 19, 20, 21, 22, 23, 27, 28, 29, 66] (evs ?_)
            have hl := ‹(ps.getD j []).length ≤ 281474976710656›
            simp only [subI ‹(i : Int) < _› hl, Int.toNat_natCast]
            all_goals (try with_reducible (repeat' (first | apply And.intro | intro _)))
            all_goals (try (first | with_reducible refine wa_id ?_ | exact True.intro | omega | exact nx2 ‹_› | exact nx3 | (rw [RQ_len hI]; have := getB h2 j; omega) | (rw [SQ_len hI]; have := getB h2 j; omega) | (rw [RV_len hJ]; omega) | (rw [SV_len hJ]; omega) | exact RQ_len hI | exact SQ_len hI | exact RV_len hJ | exact SV_len hJ))
            refine V_regionX Γ Δ [40, 51, 69, 73, 80, 87, 94] [0, 1, 2, 5, 6, 7, 8, 10, 11, 12, 13, 14, 15, 16, 17, 18, 19, 20, 21, 22, 23, 27, 28, 29, 66] (evs ?_)
            simp only [nx1 ‹(i : Int) < _› hl, Int.toNat_natCast, nxtE]
            all_goals (try with_reducible (repeat' (first | apply And.intro | intro _)))
            all_goals (try (first | with_reducible refine wa_id ?_ | exact True.intro | omega | exact nx2 ‹_› | exact nx3 | (rw [RQ_len hI]; have := getB h2 j; omega) | (rw [SQ_len hI]; have := getB h2 j; omega) | (rw [RV_len hJ]; omega) | (rw [SV_len hJ]; omega) | exact RQ_len hI | exact SQ_len hI | exact RV_len hJ | exact SV_len hJ))
            refine V_regionX Γ Δ [40, 51, 69, 73, 80, 87, 94] [0, 1, 2, 5, 6, 7, 8, 10, 11, 12, 13, 14, 15, 16, 17, 18, 19, 20, 21, 22, 23, 27, 28, 29, 66] (evs ?_)
            all_goals (try with_reducible (repeat' (first | apply And.intro | intro _)))
            all_goals (try (first | with_reducible refine wa_id ?_ | exact True.intro | omega | exact nx2 ‹_› | exact nx3 | (rw [RQ_len hI]; have := getB h2 j; omega) | (rw [SQ_len hI]; have := getB h2 j; omega) | (rw [RV_len hJ]; omega) | (rw [SV_len hJ]; omega) | exact RQ_len hI | exact SQ_len hI | exact RV_len hJ | exact SV_len hJ))
            refine V_next [(20001, some 41), (20003, some 52)] (i + 1) (evs ?_) ?_ ?_
            all_goals (try with_reducible (repeat' (first | apply And.intro | intro _)))
            all_goals (first | exact True.intro | omega | (first | exact w64l ‹(i : Int) < _› ‹(ps.getD j []).length ≤ 281474976710656› | exact w64l ‹(j : Int) < _› ‹ps.length ≤ 281474976710656› | exact RQ_next ‹(i : Int) < _› | exact SQ_next ‹(i : Int) < _› | (rw [RQ_len (by omega), RQ_len (by omega)]) | (rw [SQ_len (by omega), SQ_len (by omega)])))
          · refine V_exit (evs ?_)
            refine V_jn [] () (evs ?_) ?_
            all_goals (try with_reducible (repeat' (first | apply And.intro | intro _)))
            all_goals (first | exact True.intro | omega | (first | (rw [RQ_all hc]) | (rw [SQ_all hc]) | (rw [RQ_len hI]) | (rw [SQ_len hI])))
      · intro _ hz
        refine WA_seq (x := (fcd Try.f6 [1, 1, 0, 1, 0, 0, 1, 1, 0, 0, 1, 1, 1, 0])) (y := (fcd Try.f6 [1, 1, 0, 1, 0, 0, 1, 1, 0, 0, 1, 1, 1, 1])) ?_
        refine WA_seq (x := (fcd Try.f6 [1, 1, 0, 1, 0, 0, 1, 1, 0, 0, 1, 1, 1, 0, 0])) (y := (fcd Try.f6 [1, 1, 0, 1, 0, 0, 1, 1, 0, 0, 1, 1, 1, 0, 1])) ?_
        refine V_regionX Γ Δ [40, 51, 69, 73, 80, 87, 94] [0, 1, 2, 5, 6, 7, 8, 10, 11, 12, 13, 14, 15, 16, 17, 18, 19, 20, 21, 22, 23, 27, 28, 29, 66] (evs ?_)
        simp only [Int.zero_sub, twice_neg]
        all_goals (try with_reducible (repeat' (first | apply And.intro | intro _)))
        all_goals (try (first | with_reducible refine wa_id ?_ | exact True.intro | exact ctwice_fn _ | omega | exact nx2 ‹_› | exact nx3 | (rw [RQ_len hI]; have := getB h2 j; omega) | (rw [SQ_len hI]; have := getB h2 j; omega) | (rw [RV_len hJ]; omega) | (rw [SV_len hJ]; omega) | exact RQ_len hI | exact SQ_len hI | exact RV_len hJ | exact SV_len hJ))
        refine V_cond (evs ?_)
        refine ⟨fun hc => ?_, fun hc => ?_⟩
        · refine WA_seq (x := (fcd Try.f6 [1, 1, 0, 1, 0, 0, 1, 1, 0, 0, 1, 1, 1, 0, 1, 0, 0])) (y := (fcd Try.f6 [1, 1, 0, 1, 0, 0, 1, 1, 0, 0, 1, 1, 1, 0, 1, 0, 1])) ?_
          refine V_regionX Γ Δ [40, 51, 69, 73, 80, 87, 94] [0, 1, 2, 5, 6, 7, 8, 10, 11, 12, 13, 14, 15, 16, 17, 18, 19, 20, 21, 22, 23, 27, 28, 29, 66] (evs ?_)
          all_goals (try with_reducible (repeat' (first | apply And.intro | intro _)))
          all_goals (try (first | with_reducible refine wa_id ?_ | exact True.intro | omega | exact nx2 ‹_› | exact nx3 | (rw [RQ_len hI]; have := getB h2 j; omega) | (rw [SQ_len hI]; have := getB h2 j; omega) | (rw [RV_len hJ]; omega) | (rw [SV_len hJ]; omega) | exact RQ_len hI | exact SQ_len hI | exact RV_len hJ | exact SV_len hJ))
          refine V_ret (evs ?_)
          first | exact True.intro | (simp [sameM, (mask_rev ps rule r).1, (mask_rev ps rule r).2, (mask_rot ps rule r).1, (mask_rot ps rule r).2]; done) | (exfalso; simp [twice_rev, twice_rot] at hc; done)
        · refine WA_skip ?_
          refine V_regionX Γ Δ [40, 51, 69, 73, 80, 87, 94] [0, 1, 2, 5, 6, 7, 8, 10, 11, 12, 13, 14, 15, 16, 17, 18, 19, 20, 21, 22, 23, 27, 28, 29, 66] (evs ?_)
          all_goals (try with_reducible (repeat' (first | apply And.intro | intro _)))
          all_goals (try (first | with_reducible refine wa_id ?_ | exact True.intro | omega | exact nx2 ‹_› | exact nx3 | (rw [RQ_len hI]; have := getB h2 j; omega) | (rw [SQ_len hI]; have := getB h2 j; omega) | (rw [RV_len hJ]; omega) | (rw [SV_len hJ]; omega) | exact RQ_len hI | exact SQ_len hI | exact RV_len hJ | exact SV_len hJ))
          refine V_regionX Γ Δ [40, 51, 69, 73, 80, 87, 94] [0, 1, 2, 5, 6, 7, 8, 10, 11, 12, 13, 14, 15, 16, 17, 18, 19, 20, 21, 22, 23, 27, 28, 29, 66] (evs ?_)
          all_goals (try with_reducible (repeat' (first | apply And.intro | intro _)))
          all_goals (try (first | with_reducible refine wa_id ?_ | exact True.intro | omega | exact nx2 ‹_› | exact nx3 | (rw [RQ_len hI]; have := getB h2 j; omega) | (rw [SQ_len hI]; have := getB h2 j; omega) | (rw [RV_len hJ]; omega) | (rw [SV_len hJ]; omega) | exact RQ_len hI | exact SQ_len hI | exact RV_len hJ | exact SV_len hJ))
          refine V_next [(20000, some 70), (20002, some 74)] (j + 1) (evs ?_) ?_ ?_
          all_goals (try with_reducible (repeat' (first | apply And.intro | intro _)))
          all_goals (first | exact True.intro | omega | (first | exact w64l ‹(i : Int) < _› ‹(ps.getD j []).length ≤ 281474976710656› | exact w64l ‹(j : Int) < _› ‹ps.length ≤ 281474976710656› | exact RV_next ‹(j : Int) < _› | exact SV_next ‹(j : Int) < _› | (rw [RV_len (by omega), RV_len (by omega)]) | (rw [SV_len (by omega), SV_len (by omega)])))
    · refine V_exit (evs ?_)
      refine WA_seq (x := (fcd Try.f6 [1, 1, 1, 0])) (y := (fcd Try.f6 [1, 1, 1, 1])) ?_
      refine V_regionX Γ Δ [40, 51, 69, 73, 80, 87, 94] [0, 1, 2, 5, 6, 7, 8, 10, 11, 12, 13, 14, 15, 16, 17, 18, 19, 20, 21, 22, 23, 27, 28, 29, 66] (evs ?_)
      all_goals (try with_reducible (repeat' (first | apply And.intro | intro _)))
      all_goals (try (first | with_reducible refine wa_id ?_ | exact True.intro | exact cmask_fn _ _ ⟨_, _, _, _⟩ | omega | exact nx2 ‹_› | exact nx3 | (rw [RQ_len hI]; have := getB h2 j; omega) | (rw [SQ_len hI]; have := getB h2 j; omega) | (rw [RV_len hJ]; omega) | (rw [SV_len hJ]; omega) | exact RQ_len hI | exact SQ_len hI | exact RV_len hJ | exact SV_len hJ))
      refine WA_seq (x := (fcd Try.f6 [1, 1, 1, 1, 0])) (y := (fcd Try.f6 [1, 1, 1, 1, 1])) ?_
      refine V_regionX Γ Δ [40, 51, 69, 73, 80, 87, 94] [0, 1, 2, 5, 6, 7, 8, 10, 11, 12, 13, 14, 15, 16, 17, 18, 19, 20, 21, 22, 23, 27, 28, 29, 66] (evs ?_)
      simp only [RV_all ‹(ps.length : Int) ≤ _›]
      all_goals (try with_reducible (repeat' (first | apply And.intro | intro _)))
      all_goals (try (first | with_reducible refine wa_id ?_ | exact True.intro | exact cmask_fn _ _ ⟨_, _, _, _⟩ | omega | exact nx2 ‹_› | exact nx3 | (rw [RQ_len hI]; have := getB h2 j; omega) | (rw [SQ_len hI]; have := getB h2 j; omega) | (rw [RV_len hJ]; omega) | (rw [SV_len hJ]; omega) | exact RQ_len hI | exact SQ_len hI | exact RV_len hJ | exact SV_len hJ))
      refine WA_seq (x := (fcd Try.f6 [1, 1, 1, 1, 1, 0])) (y := (fcd Try.f6 [1, 1, 1, 1, 1, 1])) ?_
      refine V_regionX Γ Δ [40, 51, 69, 73, 80, 87, 94] [0, 1, 2, 5, 6, 7, 8, 10, 11, 12, 13, 14, 15, 16, 17, 18, 19, 20, 21, 22, 23, 27, 28, 29, 66] (evs ?_)
      simp only [SV_all ‹(ps.length : Int) ≤ _›]
      all_goals (try with_reducible (repeat' (first | apply And.intro | intro _)))
      all_goals (try (first | with_reducible refine wa_id ?_ | exact True.intro | exact cmask_fn _ _ ⟨_, _, _, _⟩ | omega | exact nx2 ‹_› | exact nx3 | (rw [RQ_len hI]; have := getB h2 j; omega) | (rw [SQ_len hI]; have := getB h2 j; omega) | (rw [RV_len hJ]; omega) | (rw [SV_len hJ]; omega) | exact RQ_len hI | exact SQ_len hI | exact RV_len hJ | exact SV_len hJ))
      refine WA_seq (x := (fcd Try.f6 [1, 1, 1, 1, 1, 1, 0])) (y := (fcd Try.f6 [1, 1, 1, 1, 1, 1, 1])) ?_
      refine V_regionX Γ Δ [40, 51, 69, 73, 80, 87, 94] [0, 1, 2, 5, 6, 7, 8, 10, 11, 12, 13, 14, 15, 16, 17, 18, 19, 20, 21, 22, 23, 27, 28, 29, 66] (evs ?_)
      all_goals (try with_reducible (repeat' (first | apply And.intro | intro _)))
      all_goals (try (first | with_reducible refine wa_id ?_ | exact True.intro | exact awake_fn | exact sameM_fn ⟨_, _, _⟩ ⟨_, _, _⟩ | omega | exact nx2 ‹_› | exact nx3 | (rw [RQ_len hI]; have := getB h2 j; omega) | (rw [SQ_len hI]; have := getB h2 j; omega) | (rw [RV_len hJ]; omega) | (rw [SV_len hJ]; omega) | exact RQ_len hI | exact SQ_len hI | exact RV_len hJ | exact SV_len hJ))
      refine V_ret (evs ?_)
      first | exact True.intro | (simp [sameM, (mask_rev ps rule r).1, (mask_rev ps rule r).2, (mask_rot ps rule r).1, (mask_rot ps rule r).2]; done) | (exfalso; simp [twice_rev, twice_rot] at hc; done)

end Go.S20

