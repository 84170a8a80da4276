import Derived.Test.YtppghgoeibelkaaB18
import Derived.Test.YtppghgoeibelkaaB2
set_option linter.unusedSimpArgs false
set_option linter.unusedVariables false
namespace Go.S23
open Go.RowKit Go.Proofs Go.Eng Go.Rect
set_option maxHeartbeats 4000000 in
/-- imageeditor/mask.Fade -/
theorem fdm_fn (i : Im) (m : Mk) : Eng.Fn Try.prog 28 [imD i, mkD m] (.tup [.agg [.dat (.i (fdR i m).w), .dat (.i (fdR i m).h), .own 49 4 ((fdR i m).p.map pxC)], .dat (.i (fdE i m))]) := by
  refine Eng.Fn.by (fn := Try.f28) 63 [.cell 4 39, .tmp 5] Try.func28 rfl Try.ntmps28 rfl (by simp) fun w0 => ?_
  refine WA_seq (x := (fcd Try.f28 [0])) (y := (fcd Try.f28 [1])) ?_
  refine V_regionX Γ Δ [] [0, 1, 2, 3, 4, 5, 6, 7, 8, 9, 10, 14, 20, 26, 43, 44, 45, 46] (evs ?_)
  all_goals (try with_reducible (repeat' (first | apply And.intro | intro _)))
  all_goals (try (first | with_reducible refine wa_id ?_ | exact True.intro | omega | exact fits_fn ⟨_, _, _⟩ ⟨_, _, _⟩ | exact fade_fn ⟨_, _, _, _⟩ _))
  refine WA_seq (x := (fcd Try.f28 [1, 0])) (y := (fcd Try.f28 [1, 1])) ?_
  refine WA_seq (x := (fcd Try.f28 [1, 0, 0])) (y := (fcd Try.f28 [1, 0, 1])) ?_
  refine V_regionX Γ Δ [] [0, 1, 2, 3, 4, 5, 6, 7, 8, 9, 10, 14, 20, 26, 43, 44, 45, 46] (evs ?_)
  all_goals (try with_reducible (repeat' (first | apply And.intro | intro _)))
  all_goals (try (first | with_reducible refine wa_id ?_ | exact True.intro | exact icheck_fn ⟨_, _, _⟩ | omega | exact fits_fn ⟨_, _, _⟩ ⟨_, _, _⟩ | exact fade_fn ⟨_, _, _, _⟩ _))
  refine WA_seq (x := (fcd Try.f28 [1, 0, 1, 0])) (y := (fcd Try.f28 [1, 0, 1, 1])) ?_
  refine V_regionX Γ Δ [] [0, 1, 2, 3, 4, 5, 6, 7, 8, 9, 10, 14, 20, 26, 43, 44, 45, 46] (evs ?_)
  all_goals (try with_reducible (repeat' (first | apply And.intro | intro _)))
  all_goals (try (first | with_reducible refine wa_id ?_ | exact True.intro | omega | exact fits_fn ⟨_, _, _⟩ ⟨_, _, _⟩ | exact fade_fn ⟨_, _, _, _⟩ _))
  refine V_cond (evs ?_)
  refine ⟨fun hc => ?_, fun hc => ?_⟩
  · refine WA_seq (x := (fcd Try.f28 [1, 0, 1, 1, 0, 0])) (y := (fcd Try.f28 [1, 0, 1, 1, 0, 1])) ?_
    refine V_regionX Γ Δ [] [0, 1, 2, 3, 4, 5, 6, 7, 8, 9, 10, 14, 20, 26, 43, 44, 45, 46] (evs ?_)
    all_goals (try with_reducible (repeat' (first | apply And.intro | intro _)))
    all_goals (try (first | with_reducible refine wa_id ?_ | exact True.intro | omega | exact fits_fn ⟨_, _, _⟩ ⟨_, _, _⟩ | exact fade_fn ⟨_, _, _, _⟩ _))
    refine V_ret (evs ?_)
    first | exact ik0 _ (fdx1 hc) | exact ik0 _ (fdx2 ‹_› hc) | exact ik0 _ (fdx3 ‹_› ‹_› hc) | (rw [fd_end hi hm hf hc]; exact ik _ (fdx4 hi hm hf)) | (rw [fd_end hi hm hf hc]; exact ikl _ (by rw [tabP_len]) (fdx4 hi hm hf))
  · refine WA_skip ?_
    refine WA_seq (x := (fcd Try.f28 [1, 1, 0])) (y := (fcd Try.f28 [1, 1, 1])) ?_
    refine WA_seq (x := (fcd Try.f28 [1, 1, 0, 0])) (y := (fcd Try.f28 [1, 1, 0, 1])) ?_
    refine V_regionX Γ Δ [] [0, 1, 2, 3, 4, 5, 6, 7, 8, 9, 10, 14, 20, 26, 43, 44, 45, 46] (evs ?_)
    all_goals (try with_reducible (repeat' (first | apply And.intro | intro _)))
    all_goals (try (first | with_reducible refine wa_id ?_ | exact True.intro | exact mcheck_fn ⟨_, _, _⟩ | omega | exact fits_fn ⟨_, _, _⟩ ⟨_, _, _⟩ | exact fade_fn ⟨_, _, _, _⟩ _))
    refine WA_seq (x := (fcd Try.f28 [1, 1, 0, 1, 0])) (y := (fcd Try.f28 [1, 1, 0, 1, 1])) ?_
    refine V_regionX Γ Δ [] [0, 1, 2, 3, 4, 5, 6, 7, 8, 9, 10, 14, 20, 26, 43, 44, 45, 46] (evs ?_)
    all_goals (try with_reducible (repeat' (first | apply And.intro | intro _)))
    all_goals (try (first | with_reducible refine wa_id ?_ | exact True.intro | omega | exact fits_fn ⟨_, _, _⟩ ⟨_, _, _⟩ | exact fade_fn ⟨_, _, _, _⟩ _))
    refine V_cond (evs ?_)
    refine ⟨fun hc => ?_, fun hc => ?_⟩
    · refine WA_seq (x := (fcd Try.f28 [1, 1, 0, 1, 1, 0, 0])) (y := (fcd Try.f28 [1, 1, 0, 1, 1, 0, 1])) ?_
      refine V_regionX Γ Δ [] [0, 1, 2, 3, 4, 5, 6, 7, 8, 9, 10, 14, 20, 26, 43, 44, 45, 46] (evs ?_)
      all_goals (try with_reducible (repeat' (first | apply And.intro | intro _)))
      all_goals (try (first | with_reducible refine wa_id ?_ | exact True.intro | omega | exact fits_fn ⟨_, _, _⟩ ⟨_, _, _⟩ | exact fade_fn ⟨_, _, _, _⟩ _))
      refine V_ret (evs ?_)
      first | exact ik0 _ (fdx1 hc) | exact ik0 _ (fdx2 ‹_› hc) | exact ik0 _ (fdx3 ‹_› ‹_› hc) | (rw [fd_end hi hm hf hc]; exact ik _ (fdx4 hi hm hf)) | (rw [fd_end hi hm hf hc]; exact ikl _ (by rw [tabP_len]) (fdx4 hi hm hf))
    · refine WA_skip ?_
      refine WA_seq (x := (fcd Try.f28 [1, 1, 1, 0])) (y := (fcd Try.f28 [1, 1, 1, 1])) ?_
      refine WA_seq (x := (fcd Try.f28 [1, 1, 1, 0, 0])) (y := (fcd Try.f28 [1, 1, 1, 0, 1])) ?_
      refine V_regionX Γ Δ [] [0, 1, 2, 3, 4, 5, 6, 7, 8, 9, 10, 14, 20, 26, 43, 44, 45, 46] (evs ?_)
      all_goals (try with_reducible (repeat' (first | apply And.intro | intro _)))
      all_goals (try (first | with_reducible refine wa_id ?_ | exact True.intro | exact fits_fn ⟨_, _, _⟩ ⟨_, _, _⟩ | omega | exact fits_fn ⟨_, _, _⟩ ⟨_, _, _⟩ | exact fade_fn ⟨_, _, _, _⟩ _))
      refine V_cond (evs ?_)
      refine ⟨fun hc => ?_, fun hc => ?_⟩
      · refine WA_seq (x := (fcd Try.f28 [1, 1, 1, 0, 1, 0, 0])) (y := (fcd Try.f28 [1, 1, 1, 0, 1, 0, 1])) ?_
        refine V_regionX Γ Δ [] [0, 1, 2, 3, 4, 5, 6, 7, 8, 9, 10, 14, 20, 26, 43, 44, 45, 46] (evs ?_)
        all_goals (try with_reducible (repeat' (first | apply And.intro | intro _)))
        all_goals (try (first | with_reducible refine wa_id ?_ | exact True.intro | omega | exact fits_fn ⟨_, _, _⟩ ⟨_, _, _⟩ | exact fade_fn ⟨_, _, _, _⟩ _))
        refine V_ret (evs ?_)
        first | exact ik0 _ (fdx1 hc) | exact ik0 _ (fdx2 ‹_› hc) | exact ik0 _ (fdx3 ‹_› ‹_› hc) | (rw [fd_end hi hm hf hc]; exact ik _ (fdx4 hi hm hf)) | (rw [fd_end hi hm hf hc]; exact ikl _ (by rw [tabP_len]) (fdx4 hi hm hf))
      · refine WA_skip ?_
        refine WA_seq (x := (fcd Try.f28 [1, 1, 1, 1, 0])) (y := (fcd Try.f28 [1, 1, 1, 1, 1])) ?_
        refine V_draw Γ [] [0, 1, 2, 3, 4, 5, 6, 7, 8, 9, 10, 14, 20, 26, 43, 44, 45, 46] mixed (by kernel_rfl) (evs ?_)
        have hi := ‹ichkE i = 0›
        have hm := ‹mchkE m = 0›
        have hq := ichk0 hi
        have hnb := nn_bd hq.1
        have hnm := nn_bd (mchk0 hm).1
        have hlm := (mchk0 hm).2.2.1
        have hf := hc
        all_goals (try with_reducible (repeat' (first | apply And.intro | intro _)))
        all_goals (try (first | with_reducible refine wa_id ?_ | exact True.intro | omega | exact fits_fn ⟨_, _, _⟩ ⟨_, _, _⟩ | exact fade_fn ⟨_, _, _, _⟩ _))
        refine WA_seq (x := (fcd Try.f28 [1, 1, 1, 1, 1, 0])) (y := (fcd Try.f28 [1, 1, 1, 1, 1, 1])) ?_
        refine V_regionX Γ Δ [] [0, 1, 2, 3, 4, 5, 6, 7, 8, 9, 10, 14, 20, 26, 43, 44, 45, 46] (evs ?_)
        all_goals (try with_reducible (repeat' (first | apply And.intro | intro _)))
        all_goals (try (first | with_reducible refine wa_id ?_ | exact True.intro | omega | exact fits_fn ⟨_, _, _⟩ ⟨_, _, _⟩ | exact fade_fn ⟨_, _, _, _⟩ _))
        try simp only [cpy0]
        refine WA_seq (x := (fcd Try.f28 [1, 1, 1, 1, 1, 1, 0])) (y := (fcd Try.f28 [1, 1, 1, 1, 1, 1, 1])) ?_
        refine WA_seq (x := (fcd Try.f28 [1, 1, 1, 1, 1, 1, 0, 0])) (y := (fcd Try.f28 [1, 1, 1, 1, 1, 1, 0, 1])) ?_
        refine V_regionX Γ Δ [] [0, 1, 2, 3, 4, 5, 6, 7, 8, 9, 10, 14, 20, 26, 43, 44, 45, 46] (evs ?_)
        all_goals (try with_reducible (repeat' (first | apply And.intro | intro _)))
        all_goals (try (first | with_reducible refine wa_id ?_ | exact True.intro | omega | exact fits_fn ⟨_, _, _⟩ ⟨_, _, _⟩ | exact fade_fn ⟨_, _, _, _⟩ _))
        refine WA_block (c := (fcd Try.f28 [1, 1, 1, 1, 1, 1, 0, 1, 0])) ?_
        refine V_loop (c := (fcd Try.f28 [1, 1, 1, 1, 1, 1, 0, 1, 0, 0])) (α := Nat) [9, 10, 45, 46] [35, 15900, 15901, 15902, 15903] (fun k => [(45, .dat (.i (k : Int)))]) (fun k => [(35, some (true, .arr 49 4 ((filP i.p.length (fdF i m) (fun k => i.p.getD k zP) k).map pxC)))]) (fun k => k ≤ m.v.length) (fun k => m.v.length - k) 0 [] ?_ (evs ?_) ?_
        · exact Nat.zero_le _
        · (try with_reducible (repeat' (first | apply And.intro | intro _)))
          all_goals (first | exact True.intro | omega | (first | exact cpy1 _ _ | (rw [← filP_0]; done) | rfl))
        · intro k hI
          refine WA_seq (x := (fcd Try.f28 [1, 1, 1, 1, 1, 1, 0, 1, 0, 0, 0])) (y := (fcd Try.f28 [1, 1, 1, 1, 1, 1, 0, 1, 0, 0, 1])) ?_
          refine V_regionX Γ Δ [] [0, 1, 2, 3, 4, 5, 6, 7, 8, 9, 10, 14, 20, 26, 43, 44, 45, 46] (evs ?_)
          all_goals (try with_reducible (repeat' (first | apply And.intro | intro _)))
          all_goals (try (first | with_reducible refine wa_id ?_ | exact True.intro | omega | exact fits_fn ⟨_, _, _⟩ ⟨_, _, _⟩ | exact fade_fn ⟨_, _, _, _⟩ _))
          refine WA_seq (x := (fcd Try.f28 [1, 1, 1, 1, 1, 1, 0, 1, 0, 0, 1, 0])) (y := (fcd Try.f28 [1, 1, 1, 1, 1, 1, 0, 1, 0, 0, 1, 1])) ?_
          refine V_cond (evs ?_)
          refine ⟨fun hc => ?_, fun hc => ?_⟩
          · refine WA_skip ?_
            refine WA_seq (x := (fcd Try.f28 [1, 1, 1, 1, 1, 1, 0, 1, 0, 0, 1, 1, 0])) (y := (fcd Try.f28 [1, 1, 1, 1, 1, 1, 0, 1, 0, 0, 1, 1, 1])) ?_
            refine WA_block (c := (fcd Try.f28 [1, 1, 1, 1, 1, 1, 0, 1, 0, 0, 1, 1, 0, 0])) ?_
            refine WA_seq (x := (fcd Try.f28 [1, 1, 1, 1, 1, 1, 0, 1, 0, 0, 1, 1, 0, 0, 0])) (y := (fcd Try.f28 [1, 1, 1, 1, 1, 1, 0, 1, 0, 0, 1, 1, 0, 0, 1])) ?_
            refine V_regionX Γ Δ [] [0, 1, 2, 3, 4, 5, 6, 7, 8, 9, 10, 14, 20, 26, 43, 44, 45, 46] (evs ?_)
            all_goals (try with_reducible (repeat' (first | apply And.intro | intro _)))
            all_goals (try (first | with_reducible refine wa_id ?_ | exact True.intro | omega | exact fits_fn ⟨_, _, _⟩ ⟨_, _, _⟩ | exact fade_fn ⟨_, _, _, _⟩ _))
            refine V_draw Γ [] [0, 1, 2, 3, 4, 5, 6, 7, 8, 9, 10, 14, 20, 26, 43, 44, 45, 46] mixed (by kernel_rfl) (evs ?_)
            have hkl := fd_k ‹(k : Int) < _› hi hm hf
            all_goals (try with_reducible (repeat' (first | apply And.intro | intro _)))
            all_goals (try (first | with_reducible refine wa_id ?_ | exact True.intro | exact pfade_fn _ _ | omega | exact fits_fn ⟨_, _, _⟩ ⟨_, _, _⟩ | exact fade_fn ⟨_, _, _, _⟩ _))
            refine V_regionX Γ Δ [] [0, 1, 2, 3, 4, 5, 6, 7, 8, 9, 10, 14, 20, 26, 43, 44, 45, 46] (evs ?_)
            all_goals (try with_reducible (repeat' (first | apply And.intro | intro _)))
            all_goals (try (first | with_reducible refine wa_id ?_ | exact True.intro | omega | exact fits_fn ⟨_, _, _⟩ ⟨_, _, _⟩ | exact fade_fn ⟨_, _, _, _⟩ _))
            refine V_next [] (k + 1) (evs ?_) ?_ ?_
            all_goals (try with_reducible (repeat' (first | apply And.intro | intro _)))
            all_goals (first | exact True.intro | omega | (first | exact w64l (n := 65536) (by omega) (by omega) | exact filP_setC (fd_v ‹(k : Int) < _› hi hm hf)))
          · refine V_exit (evs ?_)
            refine WA_seq (x := (fcd Try.f28 [1, 1, 1, 1, 1, 1, 1, 0])) (y := (fcd Try.f28 [1, 1, 1, 1, 1, 1, 1, 1])) ?_
            refine V_regionX Γ Δ [] [0, 1, 2, 3, 4, 5, 6, 7, 8, 9, 10, 14, 20, 26, 43, 44, 45, 46] (evs ?_)
            all_goals (try with_reducible (repeat' (first | apply And.intro | intro _)))
            all_goals (try (first | with_reducible refine wa_id ?_ | exact True.intro | omega | exact fits_fn ⟨_, _, _⟩ ⟨_, _, _⟩ | exact fade_fn ⟨_, _, _, _⟩ _))
            refine V_ret (evs ?_)
            first | exact ik0 _ (fdx1 hc) | exact ik0 _ (fdx2 ‹_› hc) | exact ik0 _ (fdx3 ‹_› ‹_› hc) | (rw [fd_end hi hm hf hc]; exact ik _ (fdx4 hi hm hf)) | (rw [fd_end hi hm hf hc]; exact ikl _ (by rw [tabP_len]) (fdx4 hi hm hf))

set_option maxHeartbeats 4000000 in
/-- imageeditor/imageeditorref23.Fade -/
theorem rfdm_fn (i : Im) (m : Mk) : Eng.Fn Try.prog 29 [imD i, mkD m] (.tup [.agg [.dat (.i (fdR i m).w), .dat (.i (fdR i m).h), .own 49 4 ((fdR i m).p.map pxC)], .dat (.i (fdE i m))]) := by
  refine Eng.Fn.by (fn := Try.f29) 75 [.cell 4 39, .tmp 5] Try.func29 rfl Try.ntmps29 rfl (by simp) fun w0 => ?_
  refine WA_seq (x := (fcd Try.f29 [0])) (y := (fcd Try.f29 [1])) ?_
  refine V_regionX Γ Δ [71] [0, 1, 2, 3, 4, 5, 6, 7, 8, 9, 10, 14, 20, 39, 50, 60] (evs ?_)
  all_goals (try with_reducible (repeat' (first | apply And.intro | intro _)))
  all_goals (try (first | with_reducible refine wa_id ?_ | exact True.intro | omega | exact rfade_fn ⟨_, _, _, _⟩ _ | (rw [tabP_len]; omega)))
  refine WA_seq (x := (fcd Try.f29 [1, 0])) (y := (fcd Try.f29 [1, 1])) ?_
  refine WA_seq (x := (fcd Try.f29 [1, 0, 0])) (y := (fcd Try.f29 [1, 0, 1])) ?_
  refine V_regionX Γ Δ [71] [0, 1, 2, 3, 4, 5, 6, 7, 8, 9, 10, 14, 20, 39, 50, 60] (evs ?_)
  all_goals (try with_reducible (repeat' (first | apply And.intro | intro _)))
  all_goals (try (first | with_reducible refine wa_id ?_ | exact True.intro | exact richeck_fn ⟨_, _, _⟩ | omega | exact rfade_fn ⟨_, _, _, _⟩ _ | (rw [tabP_len]; omega)))
  refine WA_seq (x := (fcd Try.f29 [1, 0, 1, 0])) (y := (fcd Try.f29 [1, 0, 1, 1])) ?_
  refine V_regionX Γ Δ [71] [0, 1, 2, 3, 4, 5, 6, 7, 8, 9, 10, 14, 20, 39, 50, 60] (evs ?_)
  all_goals (try with_reducible (repeat' (first | apply And.intro | intro _)))
  all_goals (try (first | with_reducible refine wa_id ?_ | exact True.intro | omega | exact rfade_fn ⟨_, _, _, _⟩ _ | (rw [tabP_len]; omega)))
  refine V_cond (evs ?_)
  refine ⟨fun hc => ?_, fun hc => ?_⟩
  · refine WA_seq (x := (fcd Try.f29 [1, 0, 1, 1, 0, 0])) (y := (fcd Try.f29 [1, 0, 1, 1, 0, 1])) ?_
    refine V_regionX Γ Δ [71] [0, 1, 2, 3, 4, 5, 6, 7, 8, 9, 10, 14, 20, 39, 50, 60] (evs ?_)
    all_goals (try with_reducible (repeat' (first | apply And.intro | intro _)))
    all_goals (try (first | with_reducible refine wa_id ?_ | exact True.intro | omega | exact rfade_fn ⟨_, _, _, _⟩ _ | (rw [tabP_len]; omega)))
    refine V_ret (evs ?_)
    first | exact ik0 _ (fdx1 hc) | exact ik0 _ (fdx2 ‹_› hc) | exact ik0 _ (fdx3 ‹_› ‹_› (fit_rF hc)) | (have ek : k = i.p.length := by omega); subst ek; first | exact ik _ (fdx4 hi hm hf) | exact ikl _ (by rw [tabP_len]) (fdx4 hi hm hf)
  · refine WA_skip ?_
    refine WA_seq (x := (fcd Try.f29 [1, 1, 0])) (y := (fcd Try.f29 [1, 1, 1])) ?_
    refine WA_seq (x := (fcd Try.f29 [1, 1, 0, 0])) (y := (fcd Try.f29 [1, 1, 0, 1])) ?_
    refine V_regionX Γ Δ [71] [0, 1, 2, 3, 4, 5, 6, 7, 8, 9, 10, 14, 20, 39, 50, 60] (evs ?_)
    all_goals (try with_reducible (repeat' (first | apply And.intro | intro _)))
    all_goals (try (first | with_reducible refine wa_id ?_ | exact True.intro | exact rmcheck_fn ⟨_, _, _⟩ | omega | exact rfade_fn ⟨_, _, _, _⟩ _ | (rw [tabP_len]; omega)))
    refine WA_seq (x := (fcd Try.f29 [1, 1, 0, 1, 0])) (y := (fcd Try.f29 [1, 1, 0, 1, 1])) ?_
    refine V_regionX Γ Δ [71] [0, 1, 2, 3, 4, 5, 6, 7, 8, 9, 10, 14, 20, 39, 50, 60] (evs ?_)
    all_goals (try with_reducible (repeat' (first | apply And.intro | intro _)))
    all_goals (try (first | with_reducible refine wa_id ?_ | exact True.intro | omega | exact rfade_fn ⟨_, _, _, _⟩ _ | (rw [tabP_len]; omega)))
    refine V_cond (evs ?_)
    refine ⟨fun hc => ?_, fun hc => ?_⟩
    · refine WA_seq (x := (fcd Try.f29 [1, 1, 0, 1, 1, 0, 0])) (y := (fcd Try.f29 [1, 1, 0, 1, 1, 0, 1])) ?_
      refine V_regionX Γ Δ [71] [0, 1, 2, 3, 4, 5, 6, 7, 8, 9, 10, 14, 20, 39, 50, 60] (evs ?_)
      all_goals (try with_reducible (repeat' (first | apply And.intro | intro _)))
      all_goals (try (first | with_reducible refine wa_id ?_ | exact True.intro | omega | exact rfade_fn ⟨_, _, _, _⟩ _ | (rw [tabP_len]; omega)))
      refine V_ret (evs ?_)
      first | exact ik0 _ (fdx1 hc) | exact ik0 _ (fdx2 ‹_› hc) | exact ik0 _ (fdx3 ‹_› ‹_› (fit_rF hc)) | (have ek : k = i.p.length := by omega); subst ek; first | exact ik _ (fdx4 hi hm hf) | exact ikl _ (by rw [tabP_len]) (fdx4 hi hm hf)
    · refine WA_skip ?_
      refine WA_seq (x := (fcd Try.f29 [1, 1, 1, 0])) (y := (fcd Try.f29 [1, 1, 1, 1])) ?_
      refine WA_seq (x := (fcd Try.f29 [1, 1, 1, 0, 0])) (y := (fcd Try.f29 [1, 1, 1, 0, 1])) ?_
      refine V_regionX Γ Δ [71] [0, 1, 2, 3, 4, 5, 6, 7, 8, 9, 10, 14, 20, 39, 50, 60] (evs ?_)
      all_goals (try with_reducible (repeat' (first | apply And.intro | intro _)))
      all_goals (try (first | with_reducible refine wa_id ?_ | exact True.intro | omega | exact rfade_fn ⟨_, _, _, _⟩ _ | (rw [tabP_len]; omega)))
      refine V_cond (evs ?_)
      refine ⟨fun hc => ?_, fun hc => ?_⟩
      · refine WA_seq (x := (fcd Try.f29 [1, 1, 1, 0, 1, 0, 0])) (y := (fcd Try.f29 [1, 1, 1, 0, 1, 0, 1])) ?_
        refine V_regionX Γ Δ [71] [0, 1, 2, 3, 4, 5, 6, 7, 8, 9, 10, 14, 20, 39, 50, 60] (evs ?_)
        all_goals (try with_reducible (repeat' (first | apply And.intro | intro _)))
        all_goals (try (first | with_reducible refine wa_id ?_ | exact True.intro | omega | exact rfade_fn ⟨_, _, _, _⟩ _ | (rw [tabP_len]; omega)))
        refine V_ret (evs ?_)
        first | exact ik0 _ (fdx1 hc) | exact ik0 _ (fdx2 ‹_› hc) | exact ik0 _ (fdx3 ‹_› ‹_› (fit_rF hc)) | (have ek : k = i.p.length := by omega); subst ek; first | exact ik _ (fdx4 hi hm hf) | exact ikl _ (by rw [tabP_len]) (fdx4 hi hm hf)
      · refine WA_skip ?_
        refine WA_seq (x := (fcd Try.f29 [1, 1, 1, 1, 0])) (y := (fcd Try.f29 [1, 1, 1, 1, 1])) ?_
        refine V_regionX Γ Δ [71] [0, 1, 2, 3, 4, 5, 6, 7, 8, 9, 10, 14, 20, 39, 50, 60] (evs ?_)
        have hi := ‹ichkE i = 0›
        have hm := ‹mchkE m = 0›
        have hq := ichk0 hi
        have hnb := nn_bd hq.1
        have hnm := nn_bd (mchk0 hm).1
        have hlm := (mchk0 hm).2.2.1
        have hf := fit_r hc
        all_goals (try with_reducible (repeat' (first | apply And.intro | intro _)))
        all_goals (try (first | with_reducible refine wa_id ?_ | exact True.intro | omega | exact rfade_fn ⟨_, _, _, _⟩ _ | (rw [tabP_len]; omega)))
        refine WA_seq (x := (fcd Try.f29 [1, 1, 1, 1, 1, 0])) (y := (fcd Try.f29 [1, 1, 1, 1, 1, 1])) ?_
        refine WA_seq (x := (fcd Try.f29 [1, 1, 1, 1, 1, 0, 0])) (y := (fcd Try.f29 [1, 1, 1, 1, 1, 0, 1])) ?_
        refine V_regionX Γ Δ [71] [0, 1, 2, 3, 4, 5, 6, 7, 8, 9, 10, 14, 20, 39, 50, 60] (evs ?_)
        all_goals (try with_reducible (repeat' (first | apply And.intro | intro _)))
        all_goals (try (first | with_reducible refine wa_id ?_ | exact True.intro | omega | exact rfade_fn ⟨_, _, _, _⟩ _ | (rw [tabP_len]; omega)))
        refine WA_block (c := (fcd Try.f29 [1, 1, 1, 1, 1, 0, 1, 0])) ?_
        refine V_loop (c := (fcd Try.f29 [1, 1, 1, 1, 1, 0, 1, 0, 0])) (α := Nat) [9, 10, 50, 60] [8, 10, 71, 72, 16700, 16701, 16702, 16703] (fun k => [(9, .dat (.i (k : Int)))]) (fun k => [(20000, some (true, .arr 49 4 ((tabP k (fdF i m)).map pxC))), (8, some (true, .box 39 [.dat (.i i.w), .dat (.i i.h), .vw 20000 0 (k) 4]))]) (fun k => k ≤ i.p.length) (fun k => i.p.length - k) 0 [(20000, none)] ?_ (evs ?_) ?_
        · exact Nat.zero_le _
        · (try with_reducible (repeat' (first | apply And.intro | intro _)))
          all_goals (first | exact True.intro | omega | (first | rfl | (simp [tabP]; done)))
        · intro k hI
          refine WA_seq (x := (fcd Try.f29 [1, 1, 1, 1, 1, 0, 1, 0, 0, 0])) (y := (fcd Try.f29 [1, 1, 1, 1, 1, 0, 1, 0, 0, 1])) ?_
          refine WA_seq (x := (fcd Try.f29 [1, 1, 1, 1, 1, 0, 1, 0, 0, 0, 0])) (y := (fcd Try.f29 [1, 1, 1, 1, 1, 0, 1, 0, 0, 0, 1])) ?_
          refine V_regionX Γ Δ [71] [0, 1, 2, 3, 4, 5, 6, 7, 8, 9, 10, 14, 20, 39, 50, 60] (evs ?_)
          all_goals (try with_reducible (repeat' (first | apply And.intro | intro _)))
          all_goals (try (first | with_reducible refine wa_id ?_ | exact True.intro | omega | exact rfade_fn ⟨_, _, _, _⟩ _ | (rw [tabP_len]; omega)))
          refine V_cond (evs ?_)
          refine ⟨fun hc => ?_, fun hc => ?_⟩
          · refine WA_skip ?_
            refine WA_seq (x := (fcd Try.f29 [1, 1, 1, 1, 1, 0, 1, 0, 0, 1, 0])) (y := (fcd Try.f29 [1, 1, 1, 1, 1, 0, 1, 0, 0, 1, 1])) ?_
            refine WA_block (c := (fcd Try.f29 [1, 1, 1, 1, 1, 0, 1, 0, 0, 1, 0, 0])) ?_
            refine WA_seq (x := (fcd Try.f29 [1, 1, 1, 1, 1, 0, 1, 0, 0, 1, 0, 0, 0])) (y := (fcd Try.f29 [1, 1, 1, 1, 1, 0, 1, 0, 0, 1, 0, 0, 1])) ?_
            refine V_regionX Γ Δ [71] [0, 1, 2, 3, 4, 5, 6, 7, 8, 9, 10, 14, 20, 39, 50, 60] (evs ?_)
            all_goals (try with_reducible (repeat' (first | apply And.intro | intro _)))
            all_goals (try (first | with_reducible refine wa_id ?_ | exact True.intro | omega | exact rfade_fn ⟨_, _, _, _⟩ _ | (rw [tabP_len]; omega)))
            refine V_cut (x := (fcd Try.f29 [1, 1, 1, 1, 1, 0, 1, 0, 0, 1, 0, 0, 1, 0])) (y := (fcd Try.f29 [1, 1, 1, 1, 1, 0, 1, 0, 0, 1, 0, 0, 1, 1])) (α := Unit) [60] [10, 16700, 16701, 16702, 16703] (fun _ => []) (fun _ => [(10, some (true, .box 49 [.dat (.i (fdF i m k).r), .dat (.i (fdF i m k).g), .dat (.i (fdF i m k).b), .dat (.i (fdF i m k).a)]))]) (fun _ => True) ?_ ?_
            · refine WA_seq (x := (fcd Try.f29 [1, 1, 1, 1, 1, 0, 1, 0, 0, 1, 0, 0, 1, 0, 0])) (y := (fcd Try.f29 [1, 1, 1, 1, 1, 0, 1, 0, 0, 1, 0, 0, 1, 0, 1])) ?_
              refine V_regionX Γ Δ [71] [0, 1, 2, 3, 4, 5, 6, 7, 8, 9, 10, 14, 20, 39, 50, 60] (evs ?_)
              all_goals (try with_reducible (repeat' (first | apply And.intro | intro _)))
              all_goals (try (first | with_reducible refine wa_id ?_ | exact True.intro | omega | exact rfade_fn ⟨_, _, _, _⟩ _ | (rw [tabP_len]; omega)))
              refine V_cond (evs ?_)
              refine ⟨fun hc => ?_, fun hc => ?_⟩
              · refine V_draw Γ [71] [0, 1, 2, 3, 4, 5, 6, 7, 8, 9, 10, 14, 20, 39, 50, 60] mixed (by kernel_rfl) (evs ?_)
                have hkl := fd_k2 ‹(k : Int) < _› hc hi hm hf
                all_goals (try with_reducible (repeat' (first | apply And.intro | intro _)))
                all_goals (try (first | with_reducible refine wa_id ?_ | exact True.intro | exact rfade_fn _ _ | omega | exact rfade_fn ⟨_, _, _, _⟩ _ | (rw [tabP_len]; omega)))
                refine V_jn [] () (evs ?_) ?_
                all_goals (try with_reducible (repeat' (first | apply And.intro | intro _)))
                all_goals (first | exact True.intro | omega | (first | (rw [fd_on hc]; done) | (rw [fd_off hc]; done)))
              · refine WA_skip ?_
                refine V_jn [] () (evs ?_) ?_
                all_goals (try with_reducible (repeat' (first | apply And.intro | intro _)))
                all_goals (first | exact True.intro | omega | (first | (rw [fd_on hc]; done) | (rw [fd_off hc]; done)))
            · intro _ _
              refine V_regionX Γ Δ [71] [0, 1, 2, 3, 4, 5, 6, 7, 8, 9, 10, 14, 20, 39, 50, 60] (evs ?_)
              all_goals (try with_reducible (repeat' (first | apply And.intro | intro _)))
              all_goals (try (first | with_reducible refine wa_id ?_ | exact True.intro | omega | exact rfade_fn ⟨_, _, _, _⟩ _ | (rw [tabP_len]; omega)))
              refine V_regionX Γ Δ [71] [0, 1, 2, 3, 4, 5, 6, 7, 8, 9, 10, 14, 20, 39, 50, 60] (evs ?_)
              all_goals (try with_reducible (repeat' (first | apply And.intro | intro _)))
              all_goals (try (first | with_reducible refine wa_id ?_ | exact True.intro | omega | exact rfade_fn ⟨_, _, _, _⟩ _ | (rw [tabP_len]; omega)))
              refine V_next [(20000, some 72)] (k + 1) (evs ?_) ?_ ?_
              all_goals (try with_reducible (repeat' (first | apply And.intro | intro _)))
              all_goals (first | exact True.intro | omega | (first | exact w64l (n := 65536) (by omega) (by omega) | exact tabP_app rfl))
          · refine V_exit (evs ?_)
            refine WA_seq (x := (fcd Try.f29 [1, 1, 1, 1, 1, 1, 0])) (y := (fcd Try.f29 [1, 1, 1, 1, 1, 1, 1])) ?_
            refine V_regionX Γ Δ [71] [0, 1, 2, 3, 4, 5, 6, 7, 8, 9, 10, 14, 20, 39, 50, 60] (evs ?_)
            all_goals (try with_reducible (repeat' (first | apply And.intro | intro _)))
            all_goals (try (first | with_reducible refine wa_id ?_ | exact True.intro | omega | exact rfade_fn ⟨_, _, _, _⟩ _ | (rw [tabP_len]; omega)))
            refine V_ret (evs ?_)
            first | exact ik0 _ (fdx1 hc) | exact ik0 _ (fdx2 ‹_› hc) | exact ik0 _ (fdx3 ‹_› ‹_› (fit_rF hc)) | (have ek : k = i.p.length := by omega); subst ek; first | exact ik _ (fdx4 hi hm hf) | exact ikl _ (by rw [tabP_len]) (fdx4 hi hm hf)

end Go.S23

