import Derived.Test.YtdillkdhpalgcaaA1
import Derived.Test.YtdillkdhpalgcaaA2
import Derived.Test.YtdillkdhpalgcaaB3
set_option linter.unusedSimpArgs false
set_option linter.unusedVariables false
set_option linter.unusedSimpArgs false
set_option linter.unusedVariables false
namespace Go.S16
open Go.RowKit Go.Proofs Go.Eng Go.Rect
/-- imageeditor/imageeditorref11.Pick -/
theorem pickp_fn (m : Im) (x y : Int) (hm : ichkE m = 0) : Eng.Fn Try.prog 39 [imD m, .i x, .i y] (.dat (pxD (pickP m x y))) := by
  refine Eng.Fn.by (fn := Try.f39) 36 [.cell 6 51] Try.func39 rfl Try.ntmps39 rfl (by simp) fun w0 G0 => ?_
  refine WA_seq (x := (fcd Try.f39 [0])) (y := (fcd Try.f39 [1])) ?_
  refine V_regionX Γ Δ [] [0, 1, 2, 3, 6, 24] (evs ?_)
  all_goals (try with_reducible (repeat' (first | apply And.intro | intro _)))
  all_goals (try (first | with_reducible refine wa_id ?_ | exact True.intro | omega))
  refine WA_seq (x := (fcd Try.f39 [1, 0])) (y := (fcd Try.f39 [1, 1])) ?_
  refine WA_seq (x := (fcd Try.f39 [1, 0, 0])) (y := (fcd Try.f39 [1, 0, 1])) ?_
  refine V_regionX Γ Δ [] [0, 1, 2, 3, 6, 24] (evs ?_)
  all_goals (try with_reducible (repeat' (first | apply And.intro | intro _)))
  all_goals (try (first | with_reducible refine wa_id ?_ | exact True.intro | omega))
  refine V_cond (evs ?_)
  refine ⟨fun hc => ?_, fun hc => ?_⟩
  · refine WA_seq (x := (fcd Try.f39 [1, 0, 1, 0, 0])) (y := (fcd Try.f39 [1, 0, 1, 0, 1])) ?_
    refine V_regionX Γ Δ [] [0, 1, 2, 3, 6, 24] (evs ?_)
    all_goals (try with_reducible (repeat' (first | apply And.intro | intro _)))
    all_goals (try (first | with_reducible refine wa_id ?_ | exact True.intro | omega))
    refine V_ret (evs ?_)
    first | exact pe (p := zP) (pkp0 hc) | exact pe (pkp1 hc)
  · refine WA_skip ?_
    refine WA_seq (x := (fcd Try.f39 [1, 1, 0])) (y := (fcd Try.f39 [1, 1, 1])) ?_
    refine V_regionX Γ Δ [] [0, 1, 2, 3, 6, 24] (evs ?_)
    have ha := pkp_ix hm (pkp_h hc)
    (try simp (maxSteps := 10000000) (disch := omega) only [w64])
    all_goals (try with_reducible (repeat' (first | apply And.intro | intro _)))
    all_goals (try (first | with_reducible refine wa_id ?_ | exact True.intro | omega))
    refine V_ret (evs ?_)
    first | exact pe (p := zP) (pkp0 hc) | exact pe (pkp1 hc)

set_option maxHeartbeats 4000000 in
set_option maxRecDepth 100000 in
/-- imageeditor/imageeditorref11.Crop -/
theorem rcrp_fn (m : Im) (r : Rc) : Eng.Fn Try.prog 19 [imD m, rcD r] (.tup [.agg [.dat (.i (crpR m r).w), .dat (.i (crpR m r).h), .own 51 4 ((crpR m r).p.map pxC)], .dat (.i (crpE m r))]) := by
  refine Eng.Fn.by (fn := Try.f19) 65 [.cell 4 36, .tmp 5] Try.func19 rfl Try.ntmps19 rfl (by simp) fun w0 G0 => ?_
  refine WA_seq (x := (fcd Try.f19 [0])) (y := (fcd Try.f19 [1])) ?_
  refine V_regionX Γ Δ [61] [0, 1, 2, 3, 4, 5, 6, 7, 8, 9, 13, 18, 27, 30, 40, 46] (evs ?_)
  all_goals (try with_reducible (repeat' (first | apply And.intro | intro _)))
  all_goals (try (first | with_reducible refine wa_id ?_ | exact True.intro | omega | (rw [tabP_len]; omega)))
  refine WA_seq (x := (fcd Try.f19 [1, 0])) (y := (fcd Try.f19 [1, 1])) ?_
  refine WA_seq (x := (fcd Try.f19 [1, 0, 0])) (y := (fcd Try.f19 [1, 0, 1])) ?_
  refine V_regionX Γ Δ [61] [0, 1, 2, 3, 4, 5, 6, 7, 8, 9, 13, 18, 27, 30, 40, 46] (evs ?_)
  all_goals (try with_reducible (repeat' (first | apply And.intro | intro _)))
  all_goals (try (first | with_reducible refine wa_id ?_ | exact True.intro | exact richeck_fn ⟨_, _, _⟩ | omega | (rw [tabP_len]; omega)))
  refine WA_seq (x := (fcd Try.f19 [1, 0, 1, 0])) (y := (fcd Try.f19 [1, 0, 1, 1])) ?_
  refine V_regionX Γ Δ [61] [0, 1, 2, 3, 4, 5, 6, 7, 8, 9, 13, 18, 27, 30, 40, 46] (evs ?_)
  all_goals (try with_reducible (repeat' (first | apply And.intro | intro _)))
  all_goals (try (first | with_reducible refine wa_id ?_ | exact True.intro | omega | (rw [tabP_len]; omega)))
  refine V_cond (evs ?_)
  refine ⟨fun hc => ?_, fun hc => ?_⟩
  · refine WA_seq (x := (fcd Try.f19 [1, 0, 1, 1, 0, 0])) (y := (fcd Try.f19 [1, 0, 1, 1, 0, 1])) ?_
    refine V_regionX Γ Δ [61] [0, 1, 2, 3, 4, 5, 6, 7, 8, 9, 13, 18, 27, 30, 40, 46] (evs ?_)
    all_goals (try with_reducible (repeat' (first | apply And.intro | intro _)))
    all_goals (try (first | with_reducible refine wa_id ?_ | exact True.intro | omega | (rw [tabP_len]; omega)))
    refine V_ret (evs ?_)
    first | exact ik0 _ (crq1 hc) | exact ik0 _ (crq2 ‹_› hc) | exact ik0 _ (crq3 ‹_› ‹_› hc) | exact ik0 _ (crq4 ‹_› ‹_› ‹_› hc) | (rw [cr_end hY hc]; exact ik _ (crq5 hm hv hs hw)) | (rw [cr_end hY hc]; exact ikl _ (by rw [tabP_len]) (crq5 hm hv hs hw))
  · refine WA_skip ?_
    refine WA_seq (x := (fcd Try.f19 [1, 1, 0])) (y := (fcd Try.f19 [1, 1, 1])) ?_
    refine WA_seq (x := (fcd Try.f19 [1, 1, 0, 0])) (y := (fcd Try.f19 [1, 1, 0, 1])) ?_
    refine V_regionX Γ Δ [61] [0, 1, 2, 3, 4, 5, 6, 7, 8, 9, 13, 18, 27, 30, 40, 46] (evs ?_)
    all_goals (try with_reducible (repeat' (first | apply And.intro | intro _)))
    all_goals (try (first | with_reducible refine wa_id ?_ | exact True.intro | exact rvalid_fn _ | omega | (rw [tabP_len]; omega)))
    refine V_cond (evs ?_)
    refine ⟨fun hc => ?_, fun hc => ?_⟩
    · refine WA_seq (x := (fcd Try.f19 [1, 1, 0, 1, 0, 0])) (y := (fcd Try.f19 [1, 1, 0, 1, 0, 1])) ?_
      refine V_regionX Γ Δ [61] [0, 1, 2, 3, 4, 5, 6, 7, 8, 9, 13, 18, 27, 30, 40, 46] (evs ?_)
      all_goals (try with_reducible (repeat' (first | apply And.intro | intro _)))
      all_goals (try (first | with_reducible refine wa_id ?_ | exact True.intro | omega | (rw [tabP_len]; omega)))
      refine V_ret (evs ?_)
      first | exact ik0 _ (crq1 hc) | exact ik0 _ (crq2 ‹_› hc) | exact ik0 _ (crq3 ‹_› ‹_› hc) | exact ik0 _ (crq4 ‹_› ‹_› ‹_› hc) | (rw [cr_end hY hc]; exact ik _ (crq5 hm hv hs hw)) | (rw [cr_end hY hc]; exact ikl _ (by rw [tabP_len]) (crq5 hm hv hs hw))
    · refine WA_skip ?_
      refine WA_seq (x := (fcd Try.f19 [1, 1, 1, 0])) (y := (fcd Try.f19 [1, 1, 1, 1])) ?_
      refine WA_seq (x := (fcd Try.f19 [1, 1, 1, 0, 0])) (y := (fcd Try.f19 [1, 1, 1, 0, 1])) ?_
      refine V_regionX Γ Δ [61] [0, 1, 2, 3, 4, 5, 6, 7, 8, 9, 13, 18, 27, 30, 40, 46] (evs ?_)
      all_goals (try with_reducible (repeat' (first | apply And.intro | intro _)))
      all_goals (try (first | with_reducible refine wa_id ?_ | exact True.intro | omega | (rw [tabP_len]; omega)))
      refine V_cond (evs ?_)
      refine ⟨fun hc => ?_, fun hc => ?_⟩
      · refine WA_seq (x := (fcd Try.f19 [1, 1, 1, 0, 1, 0, 0])) (y := (fcd Try.f19 [1, 1, 1, 0, 1, 0, 1])) ?_
        refine V_regionX Γ Δ [61] [0, 1, 2, 3, 4, 5, 6, 7, 8, 9, 13, 18, 27, 30, 40, 46] (evs ?_)
        all_goals (try with_reducible (repeat' (first | apply And.intro | intro _)))
        all_goals (try (first | with_reducible refine wa_id ?_ | exact True.intro | omega | (rw [tabP_len]; omega)))
        refine V_ret (evs ?_)
        first | exact ik0 _ (crq1 hc) | exact ik0 _ (crq2 ‹_› hc) | exact ik0 _ (crq3 ‹_› ‹_› hc) | exact ik0 _ (crq4 ‹_› ‹_› ‹_› hc) | (rw [cr_end hY hc]; exact ik _ (crq5 hm hv hs hw)) | (rw [cr_end hY hc]; exact ikl _ (by rw [tabP_len]) (crq5 hm hv hs hw))
      · refine WA_skip ?_
        refine WA_seq (x := (fcd Try.f19 [1, 1, 1, 1, 0])) (y := (fcd Try.f19 [1, 1, 1, 1, 1])) ?_
        refine WA_seq (x := (fcd Try.f19 [1, 1, 1, 1, 0, 0])) (y := (fcd Try.f19 [1, 1, 1, 1, 0, 1])) ?_
        refine V_regionX Γ Δ [61] [0, 1, 2, 3, 4, 5, 6, 7, 8, 9, 13, 18, 27, 30, 40, 46] (evs ?_)
        all_goals (try with_reducible (repeat' (first | apply And.intro | intro _)))
        all_goals (try (first | with_reducible refine wa_id ?_ | exact True.intro | exact rempty_fn _ | omega | (rw [tabP_len]; omega)))
        refine V_cond (evs ?_)
        refine ⟨fun hc => ?_, fun hc => ?_⟩
        · refine WA_seq (x := (fcd Try.f19 [1, 1, 1, 1, 0, 1, 0, 0])) (y := (fcd Try.f19 [1, 1, 1, 1, 0, 1, 0, 1])) ?_
          refine V_regionX Γ Δ [61] [0, 1, 2, 3, 4, 5, 6, 7, 8, 9, 13, 18, 27, 30, 40, 46] (evs ?_)
          all_goals (try with_reducible (repeat' (first | apply And.intro | intro _)))
          all_goals (try (first | with_reducible refine wa_id ?_ | exact True.intro | omega | (rw [tabP_len]; omega)))
          refine V_ret (evs ?_)
          first | exact ik0 _ (crq1 hc) | exact ik0 _ (crq2 ‹_› hc) | exact ik0 _ (crq3 ‹_› ‹_› hc) | exact ik0 _ (crq4 ‹_› ‹_› ‹_› hc) | (rw [cr_end hY hc]; exact ik _ (crq5 hm hv hs hw)) | (rw [cr_end hY hc]; exact ikl _ (by rw [tabP_len]) (crq5 hm hv hs hw))
        · refine WA_skip ?_
          refine WA_seq (x := (fcd Try.f19 [1, 1, 1, 1, 1, 0])) (y := (fcd Try.f19 [1, 1, 1, 1, 1, 1])) ?_
          refine V_regionX Γ Δ [61] [0, 1, 2, 3, 4, 5, 6, 7, 8, 9, 13, 18, 27, 30, 40, 46] (evs ?_)
          have hm := ‹ichkE m = 0›
          have hv := ‹validB r = true›
          have hs := ‹r.w ≤ 256 ∧ r.h ≤ 256›
          have hw := hc
          have hz := cr_z hw hs
          have hz2 := hz
          unfold Z0 at hz2
          have hnb := nn_bd hz
          have he := empty_spec.1 hw
          all_goals (try with_reducible (repeat' (first | apply And.intro | intro _)))
          all_goals (try (first | with_reducible refine wa_id ?_ | exact True.intro | omega | (rw [tabP_len]; omega)))
          refine WA_seq (x := (fcd Try.f19 [1, 1, 1, 1, 1, 1, 0])) (y := (fcd Try.f19 [1, 1, 1, 1, 1, 1, 1])) ?_
          refine WA_seq (x := (fcd Try.f19 [1, 1, 1, 1, 1, 1, 0, 0])) (y := (fcd Try.f19 [1, 1, 1, 1, 1, 1, 0, 1])) ?_
          refine V_regionX Γ Δ [61] [0, 1, 2, 3, 4, 5, 6, 7, 8, 9, 13, 18, 27, 30, 40, 46] (evs ?_)
          all_goals (try with_reducible (repeat' (first | apply And.intro | intro _)))
          all_goals (try (first | with_reducible refine wa_id ?_ | exact True.intro | omega | (rw [tabP_len]; omega)))
          refine WA_block (c := (fcd Try.f19 [1, 1, 1, 1, 1, 1, 0, 1, 0])) ?_
          refine V_loop (c := (fcd Try.f19 [1, 1, 1, 1, 1, 1, 0, 1, 0, 0])) (α := Nat) [8, 9, 40, 46] [7, 61, 62, 16000, 16001, 16002, 16003] (fun y => [(8, .dat (.i (y : Int)))]) (fun y => [(20000, some (true, .arr 51 4 ((tabP (y * r.w.toNat) (gP r.w.toNat (crpF m r))).map pxC))), (7, some (true, .box 36 [.dat (.i r.w), .dat (.i r.h), .vw 20000 0 (y * r.w.toNat) 4]))]) (fun y => y ≤ r.h.toNat) (fun y => r.h.toNat - y) 0 [(20000, none)] ?_ (evs ?_) ?_
          · exact Nat.zero_le _
          · (try with_reducible (repeat' (first | apply And.intro | intro _)))
            all_goals (first | exact True.intro | omega | (first | rfl | (simp [tabP]; done)))
          · intro y hY
            refine WA_seq (x := (fcd Try.f19 [1, 1, 1, 1, 1, 1, 0, 1, 0, 0, 0])) (y := (fcd Try.f19 [1, 1, 1, 1, 1, 1, 0, 1, 0, 0, 1])) ?_
            refine WA_seq (x := (fcd Try.f19 [1, 1, 1, 1, 1, 1, 0, 1, 0, 0, 0, 0])) (y := (fcd Try.f19 [1, 1, 1, 1, 1, 1, 0, 1, 0, 0, 0, 1])) ?_
            refine V_regionX Γ Δ [61] [0, 1, 2, 3, 4, 5, 6, 7, 8, 9, 13, 18, 27, 30, 40, 46] (evs ?_)
            all_goals (try with_reducible (repeat' (first | apply And.intro | intro _)))
            all_goals (try (first | with_reducible refine wa_id ?_ | exact True.intro | omega | (rw [tabP_len]; omega)))
            refine V_cond (evs ?_)
            refine ⟨fun hc => ?_, fun hc => ?_⟩
            · refine WA_skip ?_
              refine WA_seq (x := (fcd Try.f19 [1, 1, 1, 1, 1, 1, 0, 1, 0, 0, 1, 0])) (y := (fcd Try.f19 [1, 1, 1, 1, 1, 1, 0, 1, 0, 0, 1, 1])) ?_
              refine WA_block (c := (fcd Try.f19 [1, 1, 1, 1, 1, 1, 0, 1, 0, 0, 1, 0, 0])) ?_
              refine WA_seq (x := (fcd Try.f19 [1, 1, 1, 1, 1, 1, 0, 1, 0, 0, 1, 0, 0, 0])) (y := (fcd Try.f19 [1, 1, 1, 1, 1, 1, 0, 1, 0, 0, 1, 0, 0, 1])) ?_
              refine V_regionX Γ Δ [61] [0, 1, 2, 3, 4, 5, 6, 7, 8, 9, 13, 18, 27, 30, 40, 46] (evs ?_)
              all_goals (try with_reducible (repeat' (first | apply And.intro | intro _)))
              all_goals (try (first | with_reducible refine wa_id ?_ | exact True.intro | omega | (rw [tabP_len]; omega)))
              refine WA_block (c := (fcd Try.f19 [1, 1, 1, 1, 1, 1, 0, 1, 0, 0, 1, 0, 0, 1, 0])) ?_
              refine V_loop (c := (fcd Try.f19 [1, 1, 1, 1, 1, 1, 0, 1, 0, 0, 1, 0, 0, 1, 0, 0])) (α := Nat) [9, 46] [7, 61, 62, 16000, 16001, 16002, 16003, 20000] (fun x => [(9, .dat (.i (x : Int)))]) (fun x => [(20001, some (true, .arr 51 4 ((tabP (y * r.w.toNat + x) (gP r.w.toNat (crpF m r))).map pxC))), (7, some (true, .box 36 [.dat (.i r.w), .dat (.i r.h), .vw 20001 0 (y * r.w.toNat + x) 4]))]) (fun x => x ≤ r.w.toNat) (fun x => r.w.toNat - x) 0 [(20001, some 20000)] ?_ (evs ?_) ?_
              · exact Nat.zero_le _
              · (try with_reducible (repeat' (first | apply And.intro | intro _)))
                all_goals (first | exact True.intro | omega | (first | rfl | (simp [tabP]; done)))
              · intro x hX
                refine WA_seq (x := (fcd Try.f19 [1, 1, 1, 1, 1, 1, 0, 1, 0, 0, 1, 0, 0, 1, 0, 0, 0])) (y := (fcd Try.f19 [1, 1, 1, 1, 1, 1, 0, 1, 0, 0, 1, 0, 0, 1, 0, 0, 1])) ?_
                refine WA_seq (x := (fcd Try.f19 [1, 1, 1, 1, 1, 1, 0, 1, 0, 0, 1, 0, 0, 1, 0, 0, 0, 0])) (y := (fcd Try.f19 [1, 1, 1, 1, 1, 1, 0, 1, 0, 0, 1, 0, 0, 1, 0, 0, 0, 1])) ?_
                refine V_regionX Γ Δ [61] [0, 1, 2, 3, 4, 5, 6, 7, 8, 9, 13, 18, 27, 30, 40, 46] (evs ?_)
                all_goals (try with_reducible (repeat' (first | apply And.intro | intro _)))
                all_goals (try (first | with_reducible refine wa_id ?_ | exact True.intro | omega | (rw [tabP_len]; omega)))
                refine V_cond (evs ?_)
                refine ⟨fun hc => ?_, fun hc => ?_⟩
                · refine WA_skip ?_
                  refine WA_seq (x := (fcd Try.f19 [1, 1, 1, 1, 1, 1, 0, 1, 0, 0, 1, 0, 0, 1, 0, 0, 1, 0])) (y := (fcd Try.f19 [1, 1, 1, 1, 1, 1, 0, 1, 0, 0, 1, 0, 0, 1, 0, 0, 1, 1])) ?_
                  refine WA_block (c := (fcd Try.f19 [1, 1, 1, 1, 1, 1, 0, 1, 0, 0, 1, 0, 0, 1, 0, 0, 1, 0, 0])) ?_
                  refine V_draw Γ [61] [0, 1, 2, 3, 4, 5, 6, 7, 8, 9, 13, 18, 27, 30, 40, 46] mixed (by kernel_rfl) (evs ?_)
                  have hi := yxI hz ‹(y : Int) < _› ‹(x : Int) < _›
                  (try simp (maxSteps := 10000000) (disch := omega) only [w64])
                  all_goals (try with_reducible (repeat' (first | apply And.intro | intro _)))
                  all_goals (try (first | with_reducible refine wa_id ?_ | exact True.intro | exact pickp_fn ⟨_, _, _⟩ _ _ hm | omega | (rw [tabP_len]; omega)))
                  refine V_regionX Γ Δ [61] [0, 1, 2, 3, 4, 5, 6, 7, 8, 9, 13, 18, 27, 30, 40, 46] (evs ?_)
                  all_goals (try with_reducible (repeat' (first | apply And.intro | intro _)))
                  all_goals (try (first | with_reducible refine wa_id ?_ | exact True.intro | omega | (rw [tabP_len]; omega)))
                  refine V_next [(20001, some 62)] (x + 1) (evs ?_) ?_ ?_
                  all_goals (try with_reducible (repeat' (first | apply And.intro | intro _)))
                  all_goals (first | exact True.intro | omega | (first | exact w64l (n := 256) (by omega) (by omega) | exact tabP_app (gP_at (F := (crpF m r)) (show x < r.w.toNat by omega)).symm))
                · refine V_exit (evs ?_)
                  refine V_regionX Γ Δ [61] [0, 1, 2, 3, 4, 5, 6, 7, 8, 9, 13, 18, 27, 30, 40, 46] (evs ?_)
                  all_goals (try with_reducible (repeat' (first | apply And.intro | intro _)))
                  all_goals (try (first | with_reducible refine wa_id ?_ | exact True.intro | omega | (rw [tabP_len]; omega)))
                  refine V_next [(20000, some 20001)] (y + 1) (evs ?_) ?_ ?_
                  all_goals (try with_reducible (repeat' (first | apply And.intro | intro _)))
                  all_goals (first | exact True.intro | omega | (first | exact w64l (n := 256) (by omega) (by omega) | (rw [row_e (w := r.w.toNat) (y := y) (x := x) (by omega) (by omega)]; done)))
            · refine V_exit (evs ?_)
              refine WA_seq (x := (fcd Try.f19 [1, 1, 1, 1, 1, 1, 1, 0])) (y := (fcd Try.f19 [1, 1, 1, 1, 1, 1, 1, 1])) ?_
              refine V_regionX Γ Δ [61] [0, 1, 2, 3, 4, 5, 6, 7, 8, 9, 13, 18, 27, 30, 40, 46] (evs ?_)
              all_goals (try with_reducible (repeat' (first | apply And.intro | intro _)))
              all_goals (try (first | with_reducible refine wa_id ?_ | exact True.intro | omega | (rw [tabP_len]; omega)))
              refine V_ret (evs ?_)
              first | exact ik0 _ (crq1 hc) | exact ik0 _ (crq2 ‹_› hc) | exact ik0 _ (crq3 ‹_› ‹_› hc) | exact ik0 _ (crq4 ‹_› ‹_› ‹_› hc) | (rw [cr_end hY hc]; exact ik _ (crq5 hm hv hs hw)) | (rw [cr_end hY hc]; exact ikl _ (by rw [tabP_len]) (crq5 hm hv hs hw))

set_option maxHeartbeats 4000000 in
set_option maxRecDepth 100000 in
/-- imageeditor/imageeditorref11.New -/
theorem rnwp_fn (w h : Int) (p : Px) : Eng.Fn Try.prog 22 [.i w, .i h, pxD p] (.tup [.agg [.dat (.i (nwpR w h p).w), .dat (.i (nwpR w h p).h), .own 51 4 ((nwpR w h p).p.map pxC)], .dat (.i (nwpE w h p))]) := by
  refine Eng.Fn.by (fn := Try.f22) 53 [.cell 6 36, .tmp 7] Try.func22 rfl Try.ntmps22 rfl (by simp) fun w0 G0 => ?_
  refine WA_seq (x := (fcd Try.f22 [0])) (y := (fcd Try.f22 [1])) ?_
  refine V_regionX Γ Δ [49] [0, 1, 2, 5, 6, 7, 8, 9, 30, 34, 43] (evs ?_)
  all_goals (try with_reducible (repeat' (first | apply And.intro | intro _)))
  all_goals (try (first | with_reducible refine wa_id ?_ | exact True.intro | omega | (rw [tabP_len]; omega)))
  refine WA_seq (x := (fcd Try.f22 [1, 0])) (y := (fcd Try.f22 [1, 1])) ?_
  refine WA_seq (x := (fcd Try.f22 [1, 0, 0])) (y := (fcd Try.f22 [1, 0, 1])) ?_
  refine V_regionX Γ Δ [49] [0, 1, 2, 5, 6, 7, 8, 9, 30, 34, 43] (evs ?_)
  all_goals (try with_reducible (repeat' (first | apply And.intro | intro _)))
  all_goals (try (first | with_reducible refine wa_id ?_ | exact True.intro | omega | (rw [tabP_len]; omega)))
  refine V_cond (evs ?_)
  refine ⟨fun hc => ?_, fun hc => ?_⟩
  · refine WA_seq (x := (fcd Try.f22 [1, 0, 1, 0, 0])) (y := (fcd Try.f22 [1, 0, 1, 0, 1])) ?_
    refine V_regionX Γ Δ [49] [0, 1, 2, 5, 6, 7, 8, 9, 30, 34, 43] (evs ?_)
    all_goals (try with_reducible (repeat' (first | apply And.intro | intro _)))
    all_goals (try (first | with_reducible refine wa_id ?_ | exact True.intro | omega | (rw [tabP_len]; omega)))
    refine V_ret (evs ?_)
    first | exact ik0 _ (np1 (isz_F hc)) | exact ik0 _ (np2 hs hc) | (have ek : k = nn w h := by omega); subst ek; first | exact ik _ (np3 hs hv) | exact ikl _ (by rw [tabP_len]) (np3 hs hv)
  · refine WA_skip ?_
    refine WA_seq (x := (fcd Try.f22 [1, 1, 0])) (y := (fcd Try.f22 [1, 1, 1])) ?_
    refine WA_seq (x := (fcd Try.f22 [1, 1, 0, 0])) (y := (fcd Try.f22 [1, 1, 0, 1])) ?_
    refine V_regionX Γ Δ [49] [0, 1, 2, 5, 6, 7, 8, 9, 30, 34, 43] (evs ?_)
    have hs := isz_T hc
    all_goals (try with_reducible (repeat' (first | apply And.intro | intro _)))
    all_goals (try (first | with_reducible refine wa_id ?_ | exact True.intro | exact rvalid6_fn _ | omega | (rw [tabP_len]; omega)))
    refine V_cond (evs ?_)
    refine ⟨fun hc => ?_, fun hc => ?_⟩
    · refine WA_seq (x := (fcd Try.f22 [1, 1, 0, 1, 0, 0])) (y := (fcd Try.f22 [1, 1, 0, 1, 0, 1])) ?_
      refine V_regionX Γ Δ [49] [0, 1, 2, 5, 6, 7, 8, 9, 30, 34, 43] (evs ?_)
      all_goals (try with_reducible (repeat' (first | apply And.intro | intro _)))
      all_goals (try (first | with_reducible refine wa_id ?_ | exact True.intro | omega | (rw [tabP_len]; omega)))
      refine V_ret (evs ?_)
      first | exact ik0 _ (np1 (isz_F hc)) | exact ik0 _ (np2 hs hc) | (have ek : k = nn w h := by omega); subst ek; first | exact ik _ (np3 hs hv) | exact ikl _ (by rw [tabP_len]) (np3 hs hv)
    · refine WA_skip ?_
      refine WA_seq (x := (fcd Try.f22 [1, 1, 1, 0])) (y := (fcd Try.f22 [1, 1, 1, 1])) ?_
      refine V_regionX Γ Δ [49] [0, 1, 2, 5, 6, 7, 8, 9, 30, 34, 43] (evs ?_)
      have hv := hc
      have hz := isz_z hs
      have hz2 := hz
      unfold Z0 at hz2
      have hnb := nn_bd hz
      all_goals (try with_reducible (repeat' (first | apply And.intro | intro _)))
      all_goals (try (first | with_reducible refine wa_id ?_ | exact True.intro | omega | (rw [tabP_len]; omega)))
      refine WA_seq (x := (fcd Try.f22 [1, 1, 1, 1, 0])) (y := (fcd Try.f22 [1, 1, 1, 1, 1])) ?_
      refine WA_seq (x := (fcd Try.f22 [1, 1, 1, 1, 0, 0])) (y := (fcd Try.f22 [1, 1, 1, 1, 0, 1])) ?_
      refine V_regionX Γ Δ [49] [0, 1, 2, 5, 6, 7, 8, 9, 30, 34, 43] (evs ?_)
      all_goals (try with_reducible (repeat' (first | apply And.intro | intro _)))
      all_goals (try (first | with_reducible refine wa_id ?_ | exact True.intro | omega | (rw [tabP_len]; omega)))
      refine WA_block (c := (fcd Try.f22 [1, 1, 1, 1, 0, 1, 0])) ?_
      refine V_loop (c := (fcd Try.f22 [1, 1, 1, 1, 0, 1, 0, 0])) (α := Nat) [9, 43] [8, 49, 50] (fun k => [(9, .dat (.i (k : Int)))]) (fun k => [(20000, some (true, .arr 51 4 ((tabP k (fun _ => p)).map pxC))), (8, some (true, .box 36 [.dat (.i w), .dat (.i h), .vw 20000 0 (k) 4]))]) (fun k => k ≤ nn w h) (fun k => nn w h - k) 0 [(20000, none)] ?_ (evs ?_) ?_
      · exact Nat.zero_le _
      · (try with_reducible (repeat' (first | apply And.intro | intro _)))
        all_goals (first | exact True.intro | omega | (first | rfl | (simp [tabP]; done)))
      · intro k hI
        refine WA_seq (x := (fcd Try.f22 [1, 1, 1, 1, 0, 1, 0, 0, 0])) (y := (fcd Try.f22 [1, 1, 1, 1, 0, 1, 0, 0, 1])) ?_
        refine WA_seq (x := (fcd Try.f22 [1, 1, 1, 1, 0, 1, 0, 0, 0, 0])) (y := (fcd Try.f22 [1, 1, 1, 1, 0, 1, 0, 0, 0, 1])) ?_
        refine V_regionX Γ Δ [49] [0, 1, 2, 5, 6, 7, 8, 9, 30, 34, 43] (evs ?_)
        simp only [wN hz]
        all_goals (try with_reducible (repeat' (first | apply And.intro | intro _)))
        all_goals (try (first | with_reducible refine wa_id ?_ | exact True.intro | omega | (rw [tabP_len]; omega)))
        refine V_cond (evs ?_)
        refine ⟨fun hc => ?_, fun hc => ?_⟩
        · refine WA_skip ?_
          refine WA_seq (x := (fcd Try.f22 [1, 1, 1, 1, 0, 1, 0, 0, 1, 0])) (y := (fcd Try.f22 [1, 1, 1, 1, 0, 1, 0, 0, 1, 1])) ?_
          refine WA_block (c := (fcd Try.f22 [1, 1, 1, 1, 0, 1, 0, 0, 1, 0, 0])) ?_
          refine V_regionX Γ Δ [49] [0, 1, 2, 5, 6, 7, 8, 9, 30, 34, 43] (evs ?_)
          all_goals (try with_reducible (repeat' (first | apply And.intro | intro _)))
          all_goals (try (first | with_reducible refine wa_id ?_ | exact True.intro | omega | (rw [tabP_len]; omega)))
          refine V_regionX Γ Δ [49] [0, 1, 2, 5, 6, 7, 8, 9, 30, 34, 43] (evs ?_)
          all_goals (try with_reducible (repeat' (first | apply And.intro | intro _)))
          all_goals (try (first | with_reducible refine wa_id ?_ | exact True.intro | omega | (rw [tabP_len]; omega)))
          refine V_next [(20000, some 50)] (k + 1) (evs ?_) ?_ ?_
          all_goals (try with_reducible (repeat' (first | apply And.intro | intro _)))
          all_goals (first | exact True.intro | omega | (first | exact w64l (n := 65536) (by omega) (by omega) | exact tabP_app rfl))
        · refine V_exit (evs ?_)
          refine WA_seq (x := (fcd Try.f22 [1, 1, 1, 1, 1, 0])) (y := (fcd Try.f22 [1, 1, 1, 1, 1, 1])) ?_
          refine V_regionX Γ Δ [49] [0, 1, 2, 5, 6, 7, 8, 9, 30, 34, 43] (evs ?_)
          all_goals (try with_reducible (repeat' (first | apply And.intro | intro _)))
          all_goals (try (first | with_reducible refine wa_id ?_ | exact True.intro | omega | (rw [tabP_len]; omega)))
          refine V_ret (evs ?_)
          first | exact ik0 _ (np1 (isz_F hc)) | exact ik0 _ (np2 hs hc) | (have ek : k = nn w h := by omega); subst ek; first | exact ik _ (np3 hs hv) | exact ikl _ (by rw [tabP_len]) (np3 hs hv)

end Go.S16

