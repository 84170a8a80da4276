import Derived.Test.YtppghgoeibelkaaB18
import Derived.Test.YtppghgoeibelkaaB2
set_option linter.unusedSimpArgs false
set_option linter.unusedVariables false
namespace Go.S23
open Go.RowKit Go.Proofs Go.Eng Go.Rect
set_option maxHeartbeats 8000000 in
set_option maxRecDepth 100000 in
/-- imageeditor/imageeditorref23.Mix -/
theorem rmx_fn (a b : Im) (m : Mk) : Eng.Fn Try.prog 31 [imD a, imD b, mkD m] (.tup [.agg [.dat (.i (mxR a b m).w), .dat (.i (mxR a b m).h), .own 49 4 ((mxR a b m).p.map pxC)], .dat (.i (mxE a b m))]) := by
  refine Eng.Fn.by (fn := Try.f31) 118 [.cell 6 39, .tmp 7] Try.func31 rfl Try.ntmps31 rfl (by simp) fun w0 => ?_
  refine WA_seq (x := (fcd Try.f31 [0])) (y := (fcd Try.f31 [1])) ?_
  refine V_regionX Γ Δ [114] [0, 1, 2, 3, 4, 5, 6, 7, 8, 9, 10, 11, 12, 13, 14, 18, 24, 30, 63, 74, 79, 98, 105] (evs ?_)
  all_goals (try with_reducible (repeat' (first | apply And.intro | intro _)))
  all_goals (try (first | with_reducible refine wa_id ?_ | exact True.intro | omega | exact rmixp_fn ⟨_, _, _, _⟩ ⟨_, _, _, _⟩ _ | (rw [tabP_len]; omega)))
  refine WA_seq (x := (fcd Try.f31 [1, 0])) (y := (fcd Try.f31 [1, 1])) ?_
  refine WA_seq (x := (fcd Try.f31 [1, 0, 0])) (y := (fcd Try.f31 [1, 0, 1])) ?_
  refine V_regionX Γ Δ [114] [0, 1, 2, 3, 4, 5, 6, 7, 8, 9, 10, 11, 12, 13, 14, 18, 24, 30, 63, 74, 79, 98, 105] (evs ?_)
  all_goals (try with_reducible (repeat' (first | apply And.intro | intro _)))
  all_goals (try (first | with_reducible refine wa_id ?_ | exact True.intro | exact richeck_fn ⟨_, _, _⟩ | omega | exact rmixp_fn ⟨_, _, _, _⟩ ⟨_, _, _, _⟩ _ | (rw [tabP_len]; omega)))
  refine WA_seq (x := (fcd Try.f31 [1, 0, 1, 0])) (y := (fcd Try.f31 [1, 0, 1, 1])) ?_
  refine V_regionX Γ Δ [114] [0, 1, 2, 3, 4, 5, 6, 7, 8, 9, 10, 11, 12, 13, 14, 18, 24, 30, 63, 74, 79, 98, 105] (evs ?_)
  all_goals (try with_reducible (repeat' (first | apply And.intro | intro _)))
  all_goals (try (first | with_reducible refine wa_id ?_ | exact True.intro | omega | exact rmixp_fn ⟨_, _, _, _⟩ ⟨_, _, _, _⟩ _ | (rw [tabP_len]; omega)))
  refine V_cond (evs ?_)
  refine ⟨fun hc => ?_, fun hc => ?_⟩
  · refine WA_seq (x := (fcd Try.f31 [1, 0, 1, 1, 0, 0])) (y := (fcd Try.f31 [1, 0, 1, 1, 0, 1])) ?_
    refine V_regionX Γ Δ [114] [0, 1, 2, 3, 4, 5, 6, 7, 8, 9, 10, 11, 12, 13, 14, 18, 24, 30, 63, 74, 79, 98, 105] (evs ?_)
    all_goals (try with_reducible (repeat' (first | apply And.intro | intro _)))
    all_goals (try (first | with_reducible refine wa_id ?_ | exact True.intro | omega | exact rmixp_fn ⟨_, _, _, _⟩ ⟨_, _, _, _⟩ _ | (rw [tabP_len]; omega)))
    refine V_ret (evs ?_)
    first | exact ik0 _ (mxx1 hc) | exact ik0 _ (mxx2 ‹_› hc) | exact ik0 _ (mxx3 ‹_› ‹_› hc) | exact ik0 _ (mxx4 ‹_› ‹_› ‹_› (mx_n3 hc)) | (have ek : k = b.p.length := by omega); subst ek; rw [hf.1, hf.2.1]; first | exact ik _ (mxx5 ha hb hm hf) | exact ikl _ (by rw [tabP_len]) (mxx5 ha hb hm hf)
  · refine WA_skip ?_
    refine WA_seq (x := (fcd Try.f31 [1, 1, 0])) (y := (fcd Try.f31 [1, 1, 1])) ?_
    refine WA_seq (x := (fcd Try.f31 [1, 1, 0, 0])) (y := (fcd Try.f31 [1, 1, 0, 1])) ?_
    refine V_regionX Γ Δ [114] [0, 1, 2, 3, 4, 5, 6, 7, 8, 9, 10, 11, 12, 13, 14, 18, 24, 30, 63, 74, 79, 98, 105] (evs ?_)
    all_goals (try with_reducible (repeat' (first | apply And.intro | intro _)))
    all_goals (try (first | with_reducible refine wa_id ?_ | exact True.intro | exact richeck_fn ⟨_, _, _⟩ | omega | exact rmixp_fn ⟨_, _, _, _⟩ ⟨_, _, _, _⟩ _ | (rw [tabP_len]; omega)))
    refine WA_seq (x := (fcd Try.f31 [1, 1, 0, 1, 0])) (y := (fcd Try.f31 [1, 1, 0, 1, 1])) ?_
    refine V_regionX Γ Δ [114] [0, 1, 2, 3, 4, 5, 6, 7, 8, 9, 10, 11, 12, 13, 14, 18, 24, 30, 63, 74, 79, 98, 105] (evs ?_)
    all_goals (try with_reducible (repeat' (first | apply And.intro | intro _)))
    all_goals (try (first | with_reducible refine wa_id ?_ | exact True.intro | omega | exact rmixp_fn ⟨_, _, _, _⟩ ⟨_, _, _, _⟩ _ | (rw [tabP_len]; omega)))
    refine V_cond (evs ?_)
    refine ⟨fun hc => ?_, fun hc => ?_⟩
    · refine WA_seq (x := (fcd Try.f31 [1, 1, 0, 1, 1, 0, 0])) (y := (fcd Try.f31 [1, 1, 0, 1, 1, 0, 1])) ?_
      refine V_regionX Γ Δ [114] [0, 1, 2, 3, 4, 5, 6, 7, 8, 9, 10, 11, 12, 13, 14, 18, 24, 30, 63, 74, 79, 98, 105] (evs ?_)
      all_goals (try with_reducible (repeat' (first | apply And.intro | intro _)))
      all_goals (try (first | with_reducible refine wa_id ?_ | exact True.intro | omega | exact rmixp_fn ⟨_, _, _, _⟩ ⟨_, _, _, _⟩ _ | (rw [tabP_len]; omega)))
      refine V_ret (evs ?_)
      first | exact ik0 _ (mxx1 hc) | exact ik0 _ (mxx2 ‹_› hc) | exact ik0 _ (mxx3 ‹_› ‹_› hc) | exact ik0 _ (mxx4 ‹_› ‹_› ‹_› (mx_n3 hc)) | (have ek : k = b.p.length := by omega); subst ek; rw [hf.1, hf.2.1]; first | exact ik _ (mxx5 ha hb hm hf) | exact ikl _ (by rw [tabP_len]) (mxx5 ha hb hm hf)
    · refine WA_skip ?_
      refine WA_seq (x := (fcd Try.f31 [1, 1, 1, 0])) (y := (fcd Try.f31 [1, 1, 1, 1])) ?_
      refine WA_seq (x := (fcd Try.f31 [1, 1, 1, 0, 0])) (y := (fcd Try.f31 [1, 1, 1, 0, 1])) ?_
      refine V_regionX Γ Δ [114] [0, 1, 2, 3, 4, 5, 6, 7, 8, 9, 10, 11, 12, 13, 14, 18, 24, 30, 63, 74, 79, 98, 105] (evs ?_)
      all_goals (try with_reducible (repeat' (first | apply And.intro | intro _)))
      all_goals (try (first | with_reducible refine wa_id ?_ | exact True.intro | exact rmcheck_fn ⟨_, _, _⟩ | omega | exact rmixp_fn ⟨_, _, _, _⟩ ⟨_, _, _, _⟩ _ | (rw [tabP_len]; omega)))
      refine WA_seq (x := (fcd Try.f31 [1, 1, 1, 0, 1, 0])) (y := (fcd Try.f31 [1, 1, 1, 0, 1, 1])) ?_
      refine V_regionX Γ Δ [114] [0, 1, 2, 3, 4, 5, 6, 7, 8, 9, 10, 11, 12, 13, 14, 18, 24, 30, 63, 74, 79, 98, 105] (evs ?_)
      all_goals (try with_reducible (repeat' (first | apply And.intro | intro _)))
      all_goals (try (first | with_reducible refine wa_id ?_ | exact True.intro | omega | exact rmixp_fn ⟨_, _, _, _⟩ ⟨_, _, _, _⟩ _ | (rw [tabP_len]; omega)))
      refine V_cond (evs ?_)
      refine ⟨fun hc => ?_, fun hc => ?_⟩
      · refine WA_seq (x := (fcd Try.f31 [1, 1, 1, 0, 1, 1, 0, 0])) (y := (fcd Try.f31 [1, 1, 1, 0, 1, 1, 0, 1])) ?_
        refine V_regionX Γ Δ [114] [0, 1, 2, 3, 4, 5, 6, 7, 8, 9, 10, 11, 12, 13, 14, 18, 24, 30, 63, 74, 79, 98, 105] (evs ?_)
        all_goals (try with_reducible (repeat' (first | apply And.intro | intro _)))
        all_goals (try (first | with_reducible refine wa_id ?_ | exact True.intro | omega | exact rmixp_fn ⟨_, _, _, _⟩ ⟨_, _, _, _⟩ _ | (rw [tabP_len]; omega)))
        refine V_ret (evs ?_)
        first | exact ik0 _ (mxx1 hc) | exact ik0 _ (mxx2 ‹_› hc) | exact ik0 _ (mxx3 ‹_› ‹_› hc) | exact ik0 _ (mxx4 ‹_› ‹_› ‹_› (mx_n3 hc)) | (have ek : k = b.p.length := by omega); subst ek; rw [hf.1, hf.2.1]; first | exact ik _ (mxx5 ha hb hm hf) | exact ikl _ (by rw [tabP_len]) (mxx5 ha hb hm hf)
      · refine WA_skip ?_
        refine WA_seq (x := (fcd Try.f31 [1, 1, 1, 1, 0])) (y := (fcd Try.f31 [1, 1, 1, 1, 1])) ?_
        refine WA_seq (x := (fcd Try.f31 [1, 1, 1, 1, 0, 0])) (y := (fcd Try.f31 [1, 1, 1, 1, 0, 1])) ?_
        refine V_regionX Γ Δ [114] [0, 1, 2, 3, 4, 5, 6, 7, 8, 9, 10, 11, 12, 13, 14, 18, 24, 30, 63, 74, 79, 98, 105] (evs ?_)
        all_goals (try with_reducible (repeat' (first | apply And.intro | intro _)))
        all_goals (try (first | with_reducible refine wa_id ?_ | exact True.intro | omega | exact rmixp_fn ⟨_, _, _, _⟩ ⟨_, _, _, _⟩ _ | (rw [tabP_len]; omega)))
        refine V_cond (evs ?_)
        refine ⟨fun hc => ?_, fun hc => ?_⟩
        · refine WA_seq (x := (fcd Try.f31 [1, 1, 1, 1, 0, 1, 0, 0])) (y := (fcd Try.f31 [1, 1, 1, 1, 0, 1, 0, 1])) ?_
          refine V_regionX Γ Δ [114] [0, 1, 2, 3, 4, 5, 6, 7, 8, 9, 10, 11, 12, 13, 14, 18, 24, 30, 63, 74, 79, 98, 105] (evs ?_)
          all_goals (try with_reducible (repeat' (first | apply And.intro | intro _)))
          all_goals (try (first | with_reducible refine wa_id ?_ | exact True.intro | omega | exact rmixp_fn ⟨_, _, _, _⟩ ⟨_, _, _, _⟩ _ | (rw [tabP_len]; omega)))
          refine V_ret (evs ?_)
          first | exact ik0 _ (mxx1 hc) | exact ik0 _ (mxx2 ‹_› hc) | exact ik0 _ (mxx3 ‹_› ‹_› hc) | exact ik0 _ (mxx4 ‹_› ‹_› ‹_› (mx_n3 hc)) | (have ek : k = b.p.length := by omega); subst ek; rw [hf.1, hf.2.1]; first | exact ik _ (mxx5 ha hb hm hf) | exact ikl _ (by rw [tabP_len]) (mxx5 ha hb hm hf)
        · refine WA_skip ?_
          refine WA_seq (x := (fcd Try.f31 [1, 1, 1, 1, 1, 0])) (y := (fcd Try.f31 [1, 1, 1, 1, 1, 1])) ?_
          refine V_regionX Γ Δ [114] [0, 1, 2, 3, 4, 5, 6, 7, 8, 9, 10, 11, 12, 13, 14, 18, 24, 30, 63, 74, 79, 98, 105] (evs ?_)
          have ha := ‹ichkE a = 0›
          have hb := ‹ichkE b = 0›
          have hm := ‹mchkE m = 0›
          have hq := ichk0 ha
          have hqb := ichk0 hb
          have hnb := nn_bd hq.1
          have hnm := nn_bd (mchk0 hm).1
          have hlm := (mchk0 hm).2.2.1
          have hnbb := nn_bd hqb.1
          have hf : a.w = b.w ∧ a.h = b.h ∧ fitB m a = true := ⟨hc.1.1, hc.1.2, fit_r hc.2⟩
          have hll := mx_len ha hb ⟨hf.1, hf.2.1⟩
          all_goals (try with_reducible (repeat' (first | apply And.intro | intro _)))
          all_goals (try (first | with_reducible refine wa_id ?_ | exact True.intro | omega | exact rmixp_fn ⟨_, _, _, _⟩ ⟨_, _, _, _⟩ _ | (rw [tabP_len]; omega)))
          refine WA_seq (x := (fcd Try.f31 [1, 1, 1, 1, 1, 1, 0])) (y := (fcd Try.f31 [1, 1, 1, 1, 1, 1, 1])) ?_
          refine WA_seq (x := (fcd Try.f31 [1, 1, 1, 1, 1, 1, 0, 0])) (y := (fcd Try.f31 [1, 1, 1, 1, 1, 1, 0, 1])) ?_
          refine V_regionX Γ Δ [114] [0, 1, 2, 3, 4, 5, 6, 7, 8, 9, 10, 11, 12, 13, 14, 18, 24, 30, 63, 74, 79, 98, 105] (evs ?_)
          all_goals (try with_reducible (repeat' (first | apply And.intro | intro _)))
          all_goals (try (first | with_reducible refine wa_id ?_ | exact True.intro | omega | exact rmixp_fn ⟨_, _, _, _⟩ ⟨_, _, _, _⟩ _ | (rw [tabP_len]; omega)))
          refine WA_block (c := (fcd Try.f31 [1, 1, 1, 1, 1, 1, 0, 1, 0])) ?_
          refine V_loop (c := (fcd Try.f31 [1, 1, 1, 1, 1, 1, 0, 1, 0, 0])) (α := Nat) [12, 13, 14, 74, 79, 98, 105] [11, 14, 114, 115, 19600, 19601, 19602, 19603] (fun k => [(12, .dat (.i (k : Int)))]) (fun k => [(20000, some (true, .arr 49 4 ((tabP k (mxF a b m)).map pxC))), (11, some (true, .box 39 [.dat (.i a.w), .dat (.i a.h), .vw 20000 0 (k) 4]))]) (fun k => k ≤ a.p.length) (fun k => a.p.length - k) 0 [(20000, none)] ?_ (evs ?_) ?_
          · exact Nat.zero_le _
          · (try with_reducible (repeat' (first | apply And.intro | intro _)))
            all_goals (first | exact True.intro | omega | (first | rfl | (simp [tabP]; done)))
          · intro k hI
            refine WA_seq (x := (fcd Try.f31 [1, 1, 1, 1, 1, 1, 0, 1, 0, 0, 0])) (y := (fcd Try.f31 [1, 1, 1, 1, 1, 1, 0, 1, 0, 0, 1])) ?_
            refine WA_seq (x := (fcd Try.f31 [1, 1, 1, 1, 1, 1, 0, 1, 0, 0, 0, 0])) (y := (fcd Try.f31 [1, 1, 1, 1, 1, 1, 0, 1, 0, 0, 0, 1])) ?_
            refine V_regionX Γ Δ [114] [0, 1, 2, 3, 4, 5, 6, 7, 8, 9, 10, 11, 12, 13, 14, 18, 24, 30, 63, 74, 79, 98, 105] (evs ?_)
            all_goals (try with_reducible (repeat' (first | apply And.intro | intro _)))
            all_goals (try (first | with_reducible refine wa_id ?_ | exact True.intro | omega | exact rmixp_fn ⟨_, _, _, _⟩ ⟨_, _, _, _⟩ _ | (rw [tabP_len]; omega)))
            refine V_cond (evs ?_)
            refine ⟨fun hc => ?_, fun hc => ?_⟩
            · refine WA_skip ?_
              refine WA_seq (x := (fcd Try.f31 [1, 1, 1, 1, 1, 1, 0, 1, 0, 0, 1, 0])) (y := (fcd Try.f31 [1, 1, 1, 1, 1, 1, 0, 1, 0, 0, 1, 1])) ?_
              refine WA_block (c := (fcd Try.f31 [1, 1, 1, 1, 1, 1, 0, 1, 0, 0, 1, 0, 0])) ?_
              refine WA_seq (x := (fcd Try.f31 [1, 1, 1, 1, 1, 1, 0, 1, 0, 0, 1, 0, 0, 0])) (y := (fcd Try.f31 [1, 1, 1, 1, 1, 1, 0, 1, 0, 0, 1, 0, 0, 1])) ?_
              refine V_regionX Γ Δ [114] [0, 1, 2, 3, 4, 5, 6, 7, 8, 9, 10, 11, 12, 13, 14, 18, 24, 30, 63, 74, 79, 98, 105] (evs ?_)
              all_goals (try with_reducible (repeat' (first | apply And.intro | intro _)))
              all_goals (try (first | with_reducible refine wa_id ?_ | exact True.intro | omega | exact rmixp_fn ⟨_, _, _, _⟩ ⟨_, _, _, _⟩ _ | (rw [tabP_len]; omega)))
              refine V_cut (x := (fcd Try.f31 [1, 1, 1, 1, 1, 1, 0, 1, 0, 0, 1, 0, 0, 1, 0])) (y := (fcd Try.f31 [1, 1, 1, 1, 1, 1, 0, 1, 0, 0, 1, 0, 0, 1, 1])) (α := Unit) [13, 79] [] (fun _ => [(13, .dat (.i (orU m k)))]) (fun _ => []) (fun _ => True) ?_ ?_
              · refine WA_seq (x := (fcd Try.f31 [1, 1, 1, 1, 1, 1, 0, 1, 0, 0, 1, 0, 0, 1, 0, 0])) (y := (fcd Try.f31 [1, 1, 1, 1, 1, 1, 0, 1, 0, 0, 1, 0, 0, 1, 0, 1])) ?_
                refine V_regionX Γ Δ [114] [0, 1, 2, 3, 4, 5, 6, 7, 8, 9, 10, 11, 12, 13, 14, 18, 24, 30, 63, 74, 79, 98, 105] (evs ?_)
                all_goals (try with_reducible (repeat' (first | apply And.intro | intro _)))
                all_goals (try (first | with_reducible refine wa_id ?_ | exact True.intro | omega | exact rmixp_fn ⟨_, _, _, _⟩ ⟨_, _, _, _⟩ _ | (rw [tabP_len]; omega)))
                refine V_cond (evs ?_)
                refine ⟨fun hc => ?_, fun hc => ?_⟩
                · refine V_regionX Γ Δ [114] [0, 1, 2, 3, 4, 5, 6, 7, 8, 9, 10, 11, 12, 13, 14, 18, 24, 30, 63, 74, 79, 98, 105] (evs ?_)
                  have hkl := fd_k2 ‹(k : Int) < _› hc ha hm hf.2.2
                  all_goals (try with_reducible (repeat' (first | apply And.intro | intro _)))
                  all_goals (try (first | with_reducible refine wa_id ?_ | exact True.intro | omega | exact rmixp_fn ⟨_, _, _, _⟩ ⟨_, _, _, _⟩ _ | (rw [tabP_len]; omega)))
                  refine V_jn [] () (evs ?_) ?_
                  all_goals (try with_reducible (repeat' (first | apply And.intro | intro _)))
                  all_goals (first | exact True.intro | omega | (first | exact orU1 hc | exact orU0 hc))
                · refine WA_skip ?_
                  refine V_jn [] () (evs ?_) ?_
                  all_goals (try with_reducible (repeat' (first | apply And.intro | intro _)))
                  all_goals (first | exact True.intro | omega | (first | exact orU1 hc | exact orU0 hc))
              · intro _ _
                refine WA_seq (x := (fcd Try.f31 [1, 1, 1, 1, 1, 1, 0, 1, 0, 0, 1, 0, 0, 1, 1, 0])) (y := (fcd Try.f31 [1, 1, 1, 1, 1, 1, 0, 1, 0, 0, 1, 0, 0, 1, 1, 1])) ?_
                refine V_draw Γ [114] [0, 1, 2, 3, 4, 5, 6, 7, 8, 9, 10, 11, 12, 13, 14, 18, 24, 30, 63, 74, 79, 98, 105] mixed (by kernel_rfl) (evs ?_)
                all_goals (try with_reducible (repeat' (first | apply And.intro | intro _)))
                all_goals (try (first | with_reducible refine wa_id ?_ | exact True.intro | exact rmixp_fn ⟨_, _, _, _⟩ ⟨_, _, _, _⟩ _ | omega | exact rmixp_fn ⟨_, _, _, _⟩ ⟨_, _, _, _⟩ _ | (rw [tabP_len]; omega)))
                refine V_cut (x := (fcd Try.f31 [1, 1, 1, 1, 1, 1, 0, 1, 0, 0, 1, 0, 0, 1, 1, 1, 0])) (y := (fcd Try.f31 [1, 1, 1, 1, 1, 1, 0, 1, 0, 0, 1, 0, 0, 1, 1, 1, 1])) (α := Unit) [98] [14] (fun _ => []) (fun _ => [(14, some (true, .box 49 [.dat (.i (mxG a b m k).r), .dat (.i (mxG a b m k).g), .dat (.i (mxG a b m k).b), .dat (.i (mxG a b m k).a)]))]) (fun _ => True) ?_ ?_
                · refine WA_seq (x := (fcd Try.f31 [1, 1, 1, 1, 1, 1, 0, 1, 0, 0, 1, 0, 0, 1, 1, 1, 0, 0])) (y := (fcd Try.f31 [1, 1, 1, 1, 1, 1, 0, 1, 0, 0, 1, 0, 0, 1, 1, 1, 0, 1])) ?_
                  refine V_regionX Γ Δ [114] [0, 1, 2, 3, 4, 5, 6, 7, 8, 9, 10, 11, 12, 13, 14, 18, 24, 30, 63, 74, 79, 98, 105] (evs ?_)
                  all_goals (try with_reducible (repeat' (first | apply And.intro | intro _)))
                  all_goals (try (first | with_reducible refine wa_id ?_ | exact True.intro | omega | exact rmixp_fn ⟨_, _, _, _⟩ ⟨_, _, _, _⟩ _ | (rw [tabP_len]; omega)))
                  refine V_cond (evs ?_)
                  refine ⟨fun hc => ?_, fun hc => ?_⟩
                  · refine V_regionX Γ Δ [114] [0, 1, 2, 3, 4, 5, 6, 7, 8, 9, 10, 11, 12, 13, 14, 18, 24, 30, 63, 74, 79, 98, 105] (evs ?_)
                    all_goals (try with_reducible (repeat' (first | apply And.intro | intro _)))
                    all_goals (try (first | with_reducible refine wa_id ?_ | exact True.intro | omega | exact rmixp_fn ⟨_, _, _, _⟩ ⟨_, _, _, _⟩ _ | (rw [tabP_len]; omega)))
                    refine V_jn [] () (evs ?_) ?_
                    all_goals (try with_reducible (repeat' (first | apply And.intro | intro _)))
                    all_goals (first | exact True.intro | omega | (first | (rw [mxG_1 hc]; done) | (rw [mxG_0 hc]; done)))
                  · refine WA_skip ?_
                    refine V_jn [] () (evs ?_) ?_
                    all_goals (try with_reducible (repeat' (first | apply And.intro | intro _)))
                    all_goals (first | exact True.intro | omega | (first | (rw [mxG_1 hc]; done) | (rw [mxG_0 hc]; done)))
                · intro _ _
                  refine V_cut (x := (fcd Try.f31 [1, 1, 1, 1, 1, 1, 0, 1, 0, 0, 1, 0, 0, 1, 1, 1, 1, 0])) (y := (fcd Try.f31 [1, 1, 1, 1, 1, 1, 0, 1, 0, 0, 1, 0, 0, 1, 1, 1, 1, 1])) (α := Unit) [105] [14] (fun _ => []) (fun _ => [(14, some (true, .box 49 [.dat (.i (mxF a b m k).r), .dat (.i (mxF a b m k).g), .dat (.i (mxF a b m k).b), .dat (.i (mxF a b m k).a)]))]) (fun _ => True) ?_ ?_
                  · refine WA_seq (x := (fcd Try.f31 [1, 1, 1, 1, 1, 1, 0, 1, 0, 0, 1, 0, 0, 1, 1, 1, 1, 0, 0])) (y := (fcd Try.f31 [1, 1, 1, 1, 1, 1, 0, 1, 0, 0, 1, 0, 0, 1, 1, 1, 1, 0, 1])) ?_
                    refine V_regionX Γ Δ [114] [0, 1, 2, 3, 4, 5, 6, 7, 8, 9, 10, 11, 12, 13, 14, 18, 24, 30, 63, 74, 79, 98, 105] (evs ?_)
                    all_goals (try with_reducible (repeat' (first | apply And.intro | intro _)))
                    all_goals (try (first | with_reducible refine wa_id ?_ | exact True.intro | omega | exact rmixp_fn ⟨_, _, _, _⟩ ⟨_, _, _, _⟩ _ | (rw [tabP_len]; omega)))
                    refine V_cond (evs ?_)
                    refine ⟨fun hc => ?_, fun hc => ?_⟩
                    · refine V_regionX Γ Δ [114] [0, 1, 2, 3, 4, 5, 6, 7, 8, 9, 10, 11, 12, 13, 14, 18, 24, 30, 63, 74, 79, 98, 105] (evs ?_)
                      all_goals (try with_reducible (repeat' (first | apply And.intro | intro _)))
                      all_goals (try (first | with_reducible refine wa_id ?_ | exact True.intro | omega | exact rmixp_fn ⟨_, _, _, _⟩ ⟨_, _, _, _⟩ _ | (rw [tabP_len]; omega)))
                      refine V_jn [] () (evs ?_) ?_
                      all_goals (try with_reducible (repeat' (first | apply And.intro | intro _)))
                      all_goals (first | exact True.intro | omega | (first | (rw [mxF_1 hc]; done) | (rw [mxG_e hc]; done)))
                    · refine WA_skip ?_
                      refine V_jn [] () (evs ?_) ?_
                      all_goals (try with_reducible (repeat' (first | apply And.intro | intro _)))
                      all_goals (first | exact True.intro | omega | (first | (rw [mxF_1 hc]; done) | (rw [mxG_e hc]; done)))
                  · intro _ _
                    refine V_regionX Γ Δ [114] [0, 1, 2, 3, 4, 5, 6, 7, 8, 9, 10, 11, 12, 13, 14, 18, 24, 30, 63, 74, 79, 98, 105] (evs ?_)
                    all_goals (try with_reducible (repeat' (first | apply And.intro | intro _)))
                    all_goals (try (first | with_reducible refine wa_id ?_ | exact True.intro | omega | exact rmixp_fn ⟨_, _, _, _⟩ ⟨_, _, _, _⟩ _ | (rw [tabP_len]; omega)))
                    refine V_regionX Γ Δ [114] [0, 1, 2, 3, 4, 5, 6, 7, 8, 9, 10, 11, 12, 13, 14, 18, 24, 30, 63, 74, 79, 98, 105] (evs ?_)
                    all_goals (try with_reducible (repeat' (first | apply And.intro | intro _)))
                    all_goals (try (first | with_reducible refine wa_id ?_ | exact True.intro | omega | exact rmixp_fn ⟨_, _, _, _⟩ ⟨_, _, _, _⟩ _ | (rw [tabP_len]; omega)))
                    refine V_next [(20000, some 115)] (k + 1) (evs ?_) ?_ ?_
                    all_goals (try with_reducible (repeat' (first | apply And.intro | intro _)))
                    all_goals (first | exact True.intro | omega | (first | exact w64l (n := 65536) (by omega) (by omega) | exact tabP_app rfl))
            · refine V_exit (evs ?_)
              refine WA_seq (x := (fcd Try.f31 [1, 1, 1, 1, 1, 1, 1, 0])) (y := (fcd Try.f31 [1, 1, 1, 1, 1, 1, 1, 1])) ?_
              refine V_regionX Γ Δ [114] [0, 1, 2, 3, 4, 5, 6, 7, 8, 9, 10, 11, 12, 13, 14, 18, 24, 30, 63, 74, 79, 98, 105] (evs ?_)
              all_goals (try with_reducible (repeat' (first | apply And.intro | intro _)))
              all_goals (try (first | with_reducible refine wa_id ?_ | exact True.intro | omega | exact rmixp_fn ⟨_, _, _, _⟩ ⟨_, _, _, _⟩ _ | (rw [tabP_len]; omega)))
              refine V_ret (evs ?_)
              first | exact ik0 _ (mxx1 hc) | exact ik0 _ (mxx2 ‹_› hc) | exact ik0 _ (mxx3 ‹_› ‹_› hc) | exact ik0 _ (mxx4 ‹_› ‹_› ‹_› (mx_n3 hc)) | (have ek : k = b.p.length := by omega); subst ek; rw [hf.1, hf.2.1]; first | exact ik _ (mxx5 ha hb hm hf) | exact ikl _ (by rw [tabP_len]) (mxx5 ha hb hm hf)

end Go.S23

