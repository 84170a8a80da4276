import Derived.Test.YtdillkdhpalgcaaGreatH1
import Derived.Test.YtdillkdhpalgcaaGreatB2
set_option linter.unusedSimpArgs false
set_option linter.unusedVariables false
set_option linter.unusedSimpArgs false
set_option linter.unusedVariables false
namespace Go.S16
open Go.RowKit Go.Proofs Go.Eng Go.Rect
set_option maxHeartbeats 16000000 in
set_option maxRecDepth 100000 in
theorem rapply_fn (i : Im) (o : Pt) (bd : Rc) (k : Int) (ps : List Int) (out : Rc) : Eng.Fn Tryz.prog 6 [imD i, ptD o, rcD bd, .i k, .sl 1 (ps.map iC), rcD out] (.tup [.agg [.dat (.i (appR i o bd k ps out).w), .dat (.i (appR i o bd k ps out).h), .own 49 4 ((appR i o bd k ps out).p.map pxC)], .dat (.i (appE i o bd k ps out))]) := by
  refine Eng.Fn.by (fn := Tryz.f6) 137 [.cell 12 24, .tmp 13] Tryz.func6 rfl Tryz.ntmps6 rfl (by simp) fun w0 G0 => ?_
  refine WA_seq (x := (fcd Tryz.f6 [0])) (y := (fcd Tryz.f6 [1])) ?_
  refine V_regionX Γ Δ [133] [0, 1, 2, 3, 4, 5, 6, 7, 8, 11, 12, 13, 14, 15, 16, 17, 18, 19, 20, 21, 25, 37, 87, 106, 117, 128] (evs ?_)
  all_goals (try with_reducible (repeat' (first | apply And.intro | intro _)))
  all_goals (try (first | with_reducible refine wa_id ?_ | exact True.intro | omega | exact rresult_fn _ _ _ _ _ _ _ hf fl | (rw [tabP_len]; omega)))
  refine WA_seq (x := (fcd Tryz.f6 [1, 0])) (y := (fcd Tryz.f6 [1, 1])) ?_
  refine WA_seq (x := (fcd Tryz.f6 [1, 0, 0])) (y := (fcd Tryz.f6 [1, 0, 1])) ?_
  refine V_regionX Γ Δ [133] [0, 1, 2, 3, 4, 5, 6, 7, 8, 11, 12, 13, 14, 15, 16, 17, 18, 19, 20, 21, 25, 37, 87, 106, 117, 128] (evs ?_)
  all_goals (try with_reducible (repeat' (first | apply And.intro | intro _)))
  all_goals (try (first | with_reducible refine wa_id ?_ | exact True.intro | exact richeck_fn ⟨_, _, _⟩ | omega | exact rresult_fn _ _ _ _ _ _ _ hf fl | (rw [tabP_len]; omega)))
  refine WA_seq (x := (fcd Tryz.f6 [1, 0, 1, 0])) (y := (fcd Tryz.f6 [1, 0, 1, 1])) ?_
  refine V_regionX Γ Δ [133] [0, 1, 2, 3, 4, 5, 6, 7, 8, 11, 12, 13, 14, 15, 16, 17, 18, 19, 20, 21, 25, 37, 87, 106, 117, 128] (evs ?_)
  all_goals (try with_reducible (repeat' (first | apply And.intro | intro _)))
  all_goals (try (first | with_reducible refine wa_id ?_ | exact True.intro | omega | exact rresult_fn _ _ _ _ _ _ _ hf fl | (rw [tabP_len]; omega)))
  refine V_cond (evs ?_)
  refine ⟨fun hc => ?_, fun hc => ?_⟩
  · refine WA_seq (x := (fcd Tryz.f6 [1, 0, 1, 1, 0, 0])) (y := (fcd Tryz.f6 [1, 0, 1, 1, 0, 1])) ?_
    refine V_regionX Γ Δ [133] [0, 1, 2, 3, 4, 5, 6, 7, 8, 11, 12, 13, 14, 15, 16, 17, 18, 19, 20, 21, 25, 37, 87, 106, 117, 128] (evs ?_)
    all_goals (try with_reducible (repeat' (first | apply And.intro | intro _)))
    all_goals (try (first | with_reducible refine wa_id ?_ | exact True.intro | omega | exact rresult_fn _ _ _ _ _ _ _ hf fl | (rw [tabP_len]; omega)))
    refine V_ret (evs ?_)
    first | exact ik0 _ (ap1 hc) | exact ik0 _ (ap2 ‹_› hc) | exact ik0 _ (ap3 ‹_› ‹_› (rsh_e (E := True) hnR hzi hc)) | (rw [tab_end hY hc]; exact ik _ (ap4 hi hn hsb)) | (rw [tab_end hY hc]; exact ikl _ (by rw [tabP_len]) (ap4 hi hn hsb))
  · refine WA_skip ?_
    refine WA_seq (x := (fcd Tryz.f6 [1, 1, 0])) (y := (fcd Tryz.f6 [1, 1, 1])) ?_
    refine V_regionX Γ Δ [133] [0, 1, 2, 3, 4, 5, 6, 7, 8, 11, 12, 13, 14, 15, 16, 17, 18, 19, 20, 21, 25, 37, 87, 106, 117, 128] (evs ?_)
    all_goals (try with_reducible (repeat' (first | apply And.intro | intro _)))
    all_goals (try (first | with_reducible refine wa_id ?_ | exact True.intro | exact rfneed_fn _ _ ⟨_, _, _, _⟩ ⟨_, _, _, _⟩ | omega | exact rresult_fn _ _ _ _ _ _ _ hf fl | (rw [tabP_len]; omega)))
    refine WA_seq (x := (fcd Tryz.f6 [1, 1, 1, 0])) (y := (fcd Tryz.f6 [1, 1, 1, 1])) ?_
    refine WA_seq (x := (fcd Tryz.f6 [1, 1, 1, 0, 0])) (y := (fcd Tryz.f6 [1, 1, 1, 0, 1])) ?_
    refine V_regionX Γ Δ [133] [0, 1, 2, 3, 4, 5, 6, 7, 8, 11, 12, 13, 14, 15, 16, 17, 18, 19, 20, 21, 25, 37, 87, 106, 117, 128] (evs ?_)
    have hi := ‹ichkE i = 0›
    all_goals (try with_reducible (repeat' (first | apply And.intro | intro _)))
    all_goals (try (first | with_reducible refine wa_id ?_ | exact True.intro | omega | exact rresult_fn _ _ _ _ _ _ _ hf fl | (rw [tabP_len]; omega)))
    refine V_cond (evs ?_)
    refine ⟨fun hc => ?_, fun hc => ?_⟩
    · refine WA_seq (x := (fcd Tryz.f6 [1, 1, 1, 0, 1, 0, 0])) (y := (fcd Tryz.f6 [1, 1, 1, 0, 1, 0, 1])) ?_
      refine V_regionX Γ Δ [133] [0, 1, 2, 3, 4, 5, 6, 7, 8, 11, 12, 13, 14, 15, 16, 17, 18, 19, 20, 21, 25, 37, 87, 106, 117, 128] (evs ?_)
      all_goals (try with_reducible (repeat' (first | apply And.intro | intro _)))
      all_goals (try (first | with_reducible refine wa_id ?_ | exact True.intro | omega | exact rresult_fn _ _ _ _ _ _ _ hf fl | (rw [tabP_len]; omega)))
      refine V_ret (evs ?_)
      first | exact ik0 _ (ap1 hc) | exact ik0 _ (ap2 ‹_› hc) | exact ik0 _ (ap3 ‹_› ‹_› (rsh_e (E := True) hnR hzi hc)) | (rw [tab_end hY hc]; exact ik _ (ap4 hi hn hsb)) | (rw [tab_end hY hc]; exact ikl _ (by rw [tabP_len]) (ap4 hi hn hsb))
    · refine WA_skip ?_
      refine WA_seq (x := (fcd Tryz.f6 [1, 1, 1, 1, 0])) (y := (fcd Tryz.f6 [1, 1, 1, 1, 1])) ?_
      refine WA_seq (x := (fcd Tryz.f6 [1, 1, 1, 1, 0, 0])) (y := (fcd Tryz.f6 [1, 1, 1, 1, 0, 1])) ?_
      refine V_regionX Γ Δ [133] [0, 1, 2, 3, 4, 5, 6, 7, 8, 11, 12, 13, 14, 15, 16, 17, 18, 19, 20, 21, 25, 37, 87, 106, 117, 128] (evs ?_)
      have hn := ‹needE k ps out bd = 0›
      have hzi := (ichk0 hi).1
      have hnR : (-1048576 ≤ (needR k ps out bd).x ∧ (needR k ps out bd).x ≤ 1048576 ∧ 0 ≤ (needR k ps out bd).w ∧ (needR k ps out bd).w ≤ 2097152 ∧ -1048576 ≤ (needR k ps out bd).y ∧ (needR k ps out bd).y ≤ 1048576 ∧ 0 ≤ (needR k ps out bd).h ∧ (needR k ps out bd).h ≤ 2097152) := by rw [nd_R hn]; exact meet_bd _ _
      all_goals (try with_reducible (repeat' (first | apply And.intro | intro _)))
      all_goals (try (first | with_reducible refine wa_id ?_ | exact True.intro | omega | exact rresult_fn _ _ _ _ _ _ _ hf fl | (rw [tabP_len]; omega)))
      refine V_cond (evs ?_)
      refine ⟨fun hc => ?_, fun hc => ?_⟩
      · refine WA_seq (x := (fcd Tryz.f6 [1, 1, 1, 1, 0, 1, 0, 0])) (y := (fcd Tryz.f6 [1, 1, 1, 1, 0, 1, 0, 1])) ?_
        refine V_regionX Γ Δ [133] [0, 1, 2, 3, 4, 5, 6, 7, 8, 11, 12, 13, 14, 15, 16, 17, 18, 19, 20, 21, 25, 37, 87, 106, 117, 128] (evs ?_)
        all_goals (try with_reducible (repeat' (first | apply And.intro | intro _)))
        all_goals (try (first | with_reducible refine wa_id ?_ | exact True.intro | omega | exact rresult_fn _ _ _ _ _ _ _ hf fl | (rw [tabP_len]; omega)))
        refine V_ret (evs ?_)
        first | exact ik0 _ (ap1 hc) | exact ik0 _ (ap2 ‹_› hc) | exact ik0 _ (ap3 ‹_› ‹_› (rsh_e (E := True) hnR hzi hc)) | (rw [tab_end hY hc]; exact ik _ (ap4 hi hn hsb)) | (rw [tab_end hY hc]; exact ikl _ (by rw [tabP_len]) (ap4 hi hn hsb))
      · refine WA_skip ?_
        refine WA_seq (x := (fcd Tryz.f6 [1, 1, 1, 1, 1, 0])) (y := (fcd Tryz.f6 [1, 1, 1, 1, 1, 1])) ?_
        refine V_regionX Γ Δ [133] [0, 1, 2, 3, 4, 5, 6, 7, 8, 11, 12, 13, 14, 15, 16, 17, 18, 19, 20, 21, 25, 37, 87, 106, 117, 128] (evs ?_)
        have hsb := rsh_t hnR hzi hc
        have hs := shw hsb
        have hf := (nd_0 hn).1
        have hR := reach_all hf
        have hz := ap_z hi hn hs hR
        have hnb := nn_bd hz
        have he := empty_spec.1 (nd_0 hn).2.1
        have hb0 := (nd_0 hn).2.2.1
        unfold BdOk at hb0
        have hin := (nd_0 hn).2.2.2.2
        have hz2 := hz
        unfold Z0 at hz2
        all_goals (try with_reducible (repeat' (first | apply And.intro | intro _)))
        all_goals (try (first | with_reducible refine wa_id ?_ | exact True.intro | omega | exact rresult_fn _ _ _ _ _ _ _ hf fl | (rw [tabP_len]; omega)))
        refine WA_seq (x := (fcd Tryz.f6 [1, 1, 1, 1, 1, 1, 0])) (y := (fcd Tryz.f6 [1, 1, 1, 1, 1, 1, 1])) ?_
        refine V_regionX Γ Δ [133] [0, 1, 2, 3, 4, 5, 6, 7, 8, 11, 12, 13, 14, 15, 16, 17, 18, 19, 20, 21, 25, 37, 87, 106, 117, 128] (evs ?_)
        all_goals (try with_reducible (repeat' (first | apply And.intro | intro _)))
        all_goals (try (first | with_reducible refine wa_id ?_ | exact True.intro | omega | exact rresult_fn _ _ _ _ _ _ _ hf fl | (rw [tabP_len]; omega)))
        refine WA_seq (x := (fcd Tryz.f6 [1, 1, 1, 1, 1, 1, 1, 0])) (y := (fcd Tryz.f6 [1, 1, 1, 1, 1, 1, 1, 1])) ?_
        refine WA_seq (x := (fcd Tryz.f6 [1, 1, 1, 1, 1, 1, 1, 0, 0])) (y := (fcd Tryz.f6 [1, 1, 1, 1, 1, 1, 1, 0, 1])) ?_
        refine V_regionX Γ Δ [133] [0, 1, 2, 3, 4, 5, 6, 7, 8, 11, 12, 13, 14, 15, 16, 17, 18, 19, 20, 21, 25, 37, 87, 106, 117, 128] (evs ?_)
        all_goals (try with_reducible (repeat' (first | apply And.intro | intro _)))
        all_goals (try (first | with_reducible refine wa_id ?_ | exact True.intro | omega | exact rresult_fn _ _ _ _ _ _ _ hf fl | (rw [tabP_len]; omega)))
        refine WA_block (c := (fcd Tryz.f6 [1, 1, 1, 1, 1, 1, 1, 0, 1, 0])) ?_
        refine V_loop (c := (fcd Tryz.f6 [1, 1, 1, 1, 1, 1, 1, 0, 1, 0, 0])) (α := Nat) [19, 20, 21, 106, 117, 128] [18, 21, 133, 134, 22500, 22501, 22502, 22503] (fun y => [(19, .dat (.i (out.y + (y : Int))))]) (fun y => [(20000, some (true, .arr 49 4 ((tabP (y * out.w.toNat) (gP out.w.toNat (appF (vwOf i o bd k ps) (wtL k (ps.getD 0 0)) out))).map pxC))), (18, some (true, .box 24 [.dat (.i out.w), .dat (.i out.h), .vw 20000 0 (y * out.w.toNat) 4]))]) (fun y => y ≤ out.h.toNat) (fun y => out.h.toNat - y) 0 [(20000, none)] ?_ (evs ?_) ?_
        · exact Nat.zero_le _
        · (try with_reducible (repeat' (first | apply And.intro | intro _)))
          all_goals (first | exact True.intro | omega | (first | rfl | (simp [tabP]; done)))
        · intro y hY
          refine WA_seq (x := (fcd Tryz.f6 [1, 1, 1, 1, 1, 1, 1, 0, 1, 0, 0, 0])) (y := (fcd Tryz.f6 [1, 1, 1, 1, 1, 1, 1, 0, 1, 0, 0, 1])) ?_
          refine WA_seq (x := (fcd Tryz.f6 [1, 1, 1, 1, 1, 1, 1, 0, 1, 0, 0, 0, 0])) (y := (fcd Tryz.f6 [1, 1, 1, 1, 1, 1, 1, 0, 1, 0, 0, 0, 1])) ?_
          refine V_regionX Γ Δ [133] [0, 1, 2, 3, 4, 5, 6, 7, 8, 11, 12, 13, 14, 15, 16, 17, 18, 19, 20, 21, 25, 37, 87, 106, 117, 128] (evs ?_)
          (try simp (maxSteps := 10000000) (disch := omega) only [w64])
          all_goals (try with_reducible (repeat' (first | apply And.intro | intro _)))
          all_goals (try (first | with_reducible refine wa_id ?_ | exact True.intro | omega | exact rresult_fn _ _ _ _ _ _ _ hf fl | (rw [tabP_len]; omega)))
          refine V_cond (evs ?_)
          refine ⟨fun hc => ?_, fun hc => ?_⟩
          · refine WA_skip ?_
            refine WA_seq (x := (fcd Tryz.f6 [1, 1, 1, 1, 1, 1, 1, 0, 1, 0, 0, 1, 0])) (y := (fcd Tryz.f6 [1, 1, 1, 1, 1, 1, 1, 0, 1, 0, 0, 1, 1])) ?_
            refine WA_block (c := (fcd Tryz.f6 [1, 1, 1, 1, 1, 1, 1, 0, 1, 0, 0, 1, 0, 0])) ?_
            refine WA_seq (x := (fcd Tryz.f6 [1, 1, 1, 1, 1, 1, 1, 0, 1, 0, 0, 1, 0, 0, 0])) (y := (fcd Tryz.f6 [1, 1, 1, 1, 1, 1, 1, 0, 1, 0, 0, 1, 0, 0, 1])) ?_
            refine V_regionX Γ Δ [133] [0, 1, 2, 3, 4, 5, 6, 7, 8, 11, 12, 13, 14, 15, 16, 17, 18, 19, 20, 21, 25, 37, 87, 106, 117, 128] (evs ?_)
            all_goals (try with_reducible (repeat' (first | apply And.intro | intro _)))
            all_goals (try (first | with_reducible refine wa_id ?_ | exact True.intro | omega | exact rresult_fn _ _ _ _ _ _ _ hf fl | (rw [tabP_len]; omega)))
            refine WA_block (c := (fcd Tryz.f6 [1, 1, 1, 1, 1, 1, 1, 0, 1, 0, 0, 1, 0, 0, 1, 0])) ?_
            refine V_loop (c := (fcd Tryz.f6 [1, 1, 1, 1, 1, 1, 1, 0, 1, 0, 0, 1, 0, 0, 1, 0, 0])) (α := Nat) [20, 21, 117, 128] [18, 21, 133, 134, 20000, 22500, 22501, 22502, 22503] (fun x => [(20, .dat (.i (out.x + (x : Int))))]) (fun x => [(20001, some (true, .arr 49 4 ((tabP (y * out.w.toNat + x) (gP out.w.toNat (appF (vwOf i o bd k ps) (wtL k (ps.getD 0 0)) out))).map pxC))), (18, some (true, .box 24 [.dat (.i out.w), .dat (.i out.h), .vw 20001 0 (y * out.w.toNat + x) 4]))]) (fun x => x ≤ out.w.toNat) (fun x => out.w.toNat - x) 0 [(20001, some 20000)] ?_ (evs ?_) ?_
            · exact Nat.zero_le _
            · (try with_reducible (repeat' (first | apply And.intro | intro _)))
              all_goals (first | exact True.intro | omega | (first | rfl | (simp [tabP]; done)))
            · intro x hX
              refine WA_seq (x := (fcd Tryz.f6 [1, 1, 1, 1, 1, 1, 1, 0, 1, 0, 0, 1, 0, 0, 1, 0, 0, 0])) (y := (fcd Tryz.f6 [1, 1, 1, 1, 1, 1, 1, 0, 1, 0, 0, 1, 0, 0, 1, 0, 0, 1])) ?_
              refine WA_seq (x := (fcd Tryz.f6 [1, 1, 1, 1, 1, 1, 1, 0, 1, 0, 0, 1, 0, 0, 1, 0, 0, 0, 0])) (y := (fcd Tryz.f6 [1, 1, 1, 1, 1, 1, 1, 0, 1, 0, 0, 1, 0, 0, 1, 0, 0, 0, 1])) ?_
              refine V_regionX Γ Δ [133] [0, 1, 2, 3, 4, 5, 6, 7, 8, 11, 12, 13, 14, 15, 16, 17, 18, 19, 20, 21, 25, 37, 87, 106, 117, 128] (evs ?_)
              (try simp (maxSteps := 10000000) (disch := omega) only [w64])
              all_goals (try with_reducible (repeat' (first | apply And.intro | intro _)))
              all_goals (try (first | with_reducible refine wa_id ?_ | exact True.intro | omega | exact rresult_fn _ _ _ _ _ _ _ hf fl | (rw [tabP_len]; omega)))
              refine V_cond (evs ?_)
              refine ⟨fun hc => ?_, fun hc => ?_⟩
              · refine WA_skip ?_
                refine WA_seq (x := (fcd Tryz.f6 [1, 1, 1, 1, 1, 1, 1, 0, 1, 0, 0, 1, 0, 0, 1, 0, 0, 1, 0])) (y := (fcd Tryz.f6 [1, 1, 1, 1, 1, 1, 1, 0, 1, 0, 0, 1, 0, 0, 1, 0, 0, 1, 1])) ?_
                refine WA_block (c := (fcd Tryz.f6 [1, 1, 1, 1, 1, 1, 1, 0, 1, 0, 0, 1, 0, 0, 1, 0, 0, 1, 0, 0])) ?_
                refine WA_seq (x := (fcd Tryz.f6 [1, 1, 1, 1, 1, 1, 1, 0, 1, 0, 0, 1, 0, 0, 1, 0, 0, 1, 0, 0, 0])) (y := (fcd Tryz.f6 [1, 1, 1, 1, 1, 1, 1, 0, 1, 0, 0, 1, 0, 0, 1, 0, 0, 1, 0, 0, 1])) ?_
                refine V_regionX Γ Δ [133] [0, 1, 2, 3, 4, 5, 6, 7, 8, 11, 12, 13, 14, 15, 16, 17, 18, 19, 20, 21, 25, 37, 87, 106, 117, 128] (evs ?_)
                have hx : (x : Int) < out.w := by omega
                have hy : (y : Int) < out.h := by omega
                have fl := fl_of (k := k) (ps := ps) hi hn hs hx hy
                have hxy := yxI hz hy hx
                simp only [vwOf] at fl
                all_goals (try with_reducible (repeat' (first | apply And.intro | intro _)))
                all_goals (try (first | with_reducible refine wa_id ?_ | exact True.intro | exact rresult_fn ⟨_, _, _⟩ ⟨_, _⟩ ⟨_, _, _, _⟩ _ _ _ _ (by assumption) (by assumption) | omega | exact rresult_fn _ _ _ _ _ _ _ hf fl | (rw [tabP_len]; omega)))
                refine V_cut (x := (fcd Tryz.f6 [1, 1, 1, 1, 1, 1, 1, 0, 1, 0, 0, 1, 0, 0, 1, 0, 0, 1, 0, 0, 1, 0])) (y := (fcd Tryz.f6 [1, 1, 1, 1, 1, 1, 1, 0, 1, 0, 0, 1, 0, 0, 1, 0, 0, 1, 0, 0, 1, 1])) (α := Unit) [128] [21] (fun _ => []) (fun _ => [(21, some (true, .box 49 [.dat (.i (appF (vwOf i o bd k ps) (wtL k (ps.getD 0 0)) out x y).r), .dat (.i (appF (vwOf i o bd k ps) (wtL k (ps.getD 0 0)) out x y).g), .dat (.i (appF (vwOf i o bd k ps) (wtL k (ps.getD 0 0)) out x y).b), .dat (.i (appF (vwOf i o bd k ps) (wtL k (ps.getD 0 0)) out x y).a)]))]) (fun _ => True) ?_ ?_
                · refine WA_seq (x := (fcd Tryz.f6 [1, 1, 1, 1, 1, 1, 1, 0, 1, 0, 0, 1, 0, 0, 1, 0, 0, 1, 0, 0, 1, 0, 0])) (y := (fcd Tryz.f6 [1, 1, 1, 1, 1, 1, 1, 0, 1, 0, 0, 1, 0, 0, 1, 0, 0, 1, 0, 0, 1, 0, 1])) ?_
                  refine V_regionX Γ Δ [133] [0, 1, 2, 3, 4, 5, 6, 7, 8, 11, 12, 13, 14, 15, 16, 17, 18, 19, 20, 21, 25, 37, 87, 106, 117, 128] (evs ?_)
                  all_goals (try with_reducible (repeat' (first | apply And.intro | intro _)))
                  all_goals (try (first | with_reducible refine wa_id ?_ | exact True.intro | omega | exact rresult_fn _ _ _ _ _ _ _ hf fl | (rw [tabP_len]; omega)))
                  refine V_cond (evs ?_)
                  refine ⟨fun hc => ?_, fun hc => ?_⟩
                  · refine V_regionX Γ Δ [133] [0, 1, 2, 3, 4, 5, 6, 7, 8, 11, 12, 13, 14, 15, 16, 17, 18, 19, 20, 21, 25, 37, 87, 106, 117, 128] (evs ?_)
                    all_goals (try with_reducible (repeat' (first | apply And.intro | intro _)))
                    all_goals (try (first | with_reducible refine wa_id ?_ | exact True.intro | omega | exact rresult_fn _ _ _ _ _ _ _ hf fl | (rw [tabP_len]; omega)))
                    refine V_jn [] () (evs ?_) ?_
                    all_goals (try with_reducible (repeat' (first | apply And.intro | intro _)))
                    all_goals (first | exact True.intro | omega | (first | (rw [appF, clrP, if_pos hc]; rfl) | (rw [appF, clrP, if_neg hc]; done) | (rw [appF, clrP, if_neg hc]; rfl)))
                  · refine WA_skip ?_
                    refine V_jn [] () (evs ?_) ?_
                    all_goals (try with_reducible (repeat' (first | apply And.intro | intro _)))
                    all_goals (first | exact True.intro | omega | (first | (rw [appF, clrP, if_pos hc]; rfl) | (rw [appF, clrP, if_neg hc]; done) | (rw [appF, clrP, if_neg hc]; rfl)))
                · intro _ _
                  refine V_regionX Γ Δ [133] [0, 1, 2, 3, 4, 5, 6, 7, 8, 11, 12, 13, 14, 15, 16, 17, 18, 19, 20, 21, 25, 37, 87, 106, 117, 128] (evs ?_)
                  all_goals (try with_reducible (repeat' (first | apply And.intro | intro _)))
                  all_goals (try (first | with_reducible refine wa_id ?_ | exact True.intro | omega | exact rresult_fn _ _ _ _ _ _ _ hf fl | (rw [tabP_len]; omega)))
                  refine V_regionX Γ Δ [133] [0, 1, 2, 3, 4, 5, 6, 7, 8, 11, 12, 13, 14, 15, 16, 17, 18, 19, 20, 21, 25, 37, 87, 106, 117, 128] (evs ?_)
                  (try simp (maxSteps := 10000000) (disch := omega) only [w64])
                  all_goals (try with_reducible (repeat' (first | apply And.intro | intro _)))
                  all_goals (try (first | with_reducible refine wa_id ?_ | exact True.intro | omega | exact rresult_fn _ _ _ _ _ _ _ hf fl | (rw [tabP_len]; omega)))
                  refine V_next [(20001, some 134)] (x + 1) (evs ?_) ?_ ?_
                  all_goals (try with_reducible (repeat' (first | apply And.intro | intro _)))
                  all_goals (first | exact True.intro | omega | (first | (push_cast; omega) | exact tabP_app (gP_at (F := (appF (vwOf i o bd k ps) (wtL k (ps.getD 0 0)) out)) (show x < out.w.toNat by omega)).symm))
              · refine V_exit (evs ?_)
                refine V_regionX Γ Δ [133] [0, 1, 2, 3, 4, 5, 6, 7, 8, 11, 12, 13, 14, 15, 16, 17, 18, 19, 20, 21, 25, 37, 87, 106, 117, 128] (evs ?_)
                (try simp (maxSteps := 10000000) (disch := omega) only [w64])
                all_goals (try with_reducible (repeat' (first | apply And.intro | intro _)))
                all_goals (try (first | with_reducible refine wa_id ?_ | exact True.intro | omega | exact rresult_fn _ _ _ _ _ _ _ hf fl | (rw [tabP_len]; omega)))
                refine V_next [(20000, some 20001)] (y + 1) (evs ?_) ?_ ?_
                all_goals (try with_reducible (repeat' (first | apply And.intro | intro _)))
                all_goals (first | exact True.intro | omega | (first | (push_cast; omega) | (rw [row_e (w := out.w.toNat) (y := y) (x := x) (by omega) (by omega)]; done)))
          · refine V_exit (evs ?_)
            refine WA_seq (x := (fcd Tryz.f6 [1, 1, 1, 1, 1, 1, 1, 1, 0])) (y := (fcd Tryz.f6 [1, 1, 1, 1, 1, 1, 1, 1, 1])) ?_
            refine V_regionX Γ Δ [133] [0, 1, 2, 3, 4, 5, 6, 7, 8, 11, 12, 13, 14, 15, 16, 17, 18, 19, 20, 21, 25, 37, 87, 106, 117, 128] (evs ?_)
            all_goals (try with_reducible (repeat' (first | apply And.intro | intro _)))
            all_goals (try (first | with_reducible refine wa_id ?_ | exact True.intro | omega | exact rresult_fn _ _ _ _ _ _ _ hf fl | (rw [tabP_len]; omega)))
            refine V_ret (evs ?_)
            first | exact ik0 _ (ap1 hc) | exact ik0 _ (ap2 ‹_› hc) | exact ik0 _ (ap3 ‹_› ‹_› (rsh_e (E := True) hnR hzi hc)) | (rw [tab_end hY hc]; exact ik _ (ap4 hi hn hsb)) | (rw [tab_end hY hc]; exact ikl _ (by rw [tabP_len]) (ap4 hi hn hsb))

end Go.S16

