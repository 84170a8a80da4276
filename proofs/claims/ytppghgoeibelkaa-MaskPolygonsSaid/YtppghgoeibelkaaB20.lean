import Derived.Test.YtppghgoeibelkaaB18
import Derived.Test.YtppghgoeibelkaaB2
set_option linter.unusedSimpArgs false
set_option linter.unusedVariables false
namespace Go.S23
open Go.RowKit Go.Proofs Go.Eng Go.Rect
set_option maxHeartbeats 8000000 in
set_option maxRecDepth 100000 in
/-- imageeditor/mask.Mix -/
theorem mx_fn (a b : Im) (m : Mk) : Eng.Fn Try.prog 30 [imD a, imD b, mkD m] (.tup [.agg [.dat (.i (mxR a b m).w), .dat (.i (mxR a b m).h), .own 49 4 ((mxR a b m).p.map pxC)], .dat (.i (mxE a b m))]) := by
  refine Eng.Fn.by (fn := Try.f30) 105 [.cell 6 39, .tmp 7] Try.func30 rfl Try.ntmps30 rfl (by simp) fun w0 => ?_
  refine WA_seq (x := (fcd Try.f30 [0])) (y := (fcd Try.f30 [1])) ?_
  refine V_regionX Γ Δ [] [0, 1, 2, 3, 4, 5, 6, 7, 8, 9, 10, 11, 12, 13, 17, 23, 29, 49, 66, 67, 68, 69, 73, 90, 101] (evs ?_)
  all_goals (try with_reducible (repeat' (first | apply And.intro | intro _)))
  all_goals (try (first | with_reducible refine wa_id ?_ | exact True.intro | omega | exact fits_fn ⟨_, _, _⟩ ⟨_, _, _⟩ | exact mixp_fn ⟨_, _, _, _⟩ ⟨_, _, _, _⟩ _))
  refine WA_seq (x := (fcd Try.f30 [1, 0])) (y := (fcd Try.f30 [1, 1])) ?_
  refine WA_seq (x := (fcd Try.f30 [1, 0, 0])) (y := (fcd Try.f30 [1, 0, 1])) ?_
  refine V_regionX Γ Δ [] [0, 1, 2, 3, 4, 5, 6, 7, 8, 9, 10, 11, 12, 13, 17, 23, 29, 49, 66, 67, 68, 69, 73, 90, 101] (evs ?_)
  all_goals (try with_reducible (repeat' (first | apply And.intro | intro _)))
  all_goals (try (first | with_reducible refine wa_id ?_ | exact True.intro | exact icheck_fn ⟨_, _, _⟩ | omega | exact fits_fn ⟨_, _, _⟩ ⟨_, _, _⟩ | exact mixp_fn ⟨_, _, _, _⟩ ⟨_, _, _, _⟩ _))
  refine WA_seq (x := (fcd Try.f30 [1, 0, 1, 0])) (y := (fcd Try.f30 [1, 0, 1, 1])) ?_
  refine V_regionX Γ Δ [] [0, 1, 2, 3, 4, 5, 6, 7, 8, 9, 10, 11, 12, 13, 17, 23, 29, 49, 66, 67, 68, 69, 73, 90, 101] (evs ?_)
  all_goals (try with_reducible (repeat' (first | apply And.intro | intro _)))
  all_goals (try (first | with_reducible refine wa_id ?_ | exact True.intro | omega | exact fits_fn ⟨_, _, _⟩ ⟨_, _, _⟩ | exact mixp_fn ⟨_, _, _, _⟩ ⟨_, _, _, _⟩ _))
  refine V_cond (evs ?_)
  refine ⟨fun hc => ?_, fun hc => ?_⟩
  · refine WA_seq (x := (fcd Try.f30 [1, 0, 1, 1, 0, 0])) (y := (fcd Try.f30 [1, 0, 1, 1, 0, 1])) ?_
    refine V_regionX Γ Δ [] [0, 1, 2, 3, 4, 5, 6, 7, 8, 9, 10, 11, 12, 13, 17, 23, 29, 49, 66, 67, 68, 69, 73, 90, 101] (evs ?_)
    all_goals (try with_reducible (repeat' (first | apply And.intro | intro _)))
    all_goals (try (first | with_reducible refine wa_id ?_ | exact True.intro | omega | exact fits_fn ⟨_, _, _⟩ ⟨_, _, _⟩ | exact mixp_fn ⟨_, _, _, _⟩ ⟨_, _, _, _⟩ _))
    refine V_ret (evs ?_)
    first | exact ik0 _ (mxx1 hc) | exact ik0 _ (mxx2 ‹_› hc) | exact ik0 _ (mxx3 ‹_› ‹_› hc) | exact ik0 _ (mxx4 ‹_› ‹_› ‹_› (mx_n hc)) | (rw [mx_end ha hb hm hf hc]; exact ik _ (mxx5 ha hb hm hf)) | (rw [mx_end ha hb hm hf hc]; exact ikl _ (by rw [tabP_len]) (mxx5 ha hb hm hf))
  · refine WA_skip ?_
    refine WA_seq (x := (fcd Try.f30 [1, 1, 0])) (y := (fcd Try.f30 [1, 1, 1])) ?_
    refine WA_seq (x := (fcd Try.f30 [1, 1, 0, 0])) (y := (fcd Try.f30 [1, 1, 0, 1])) ?_
    refine V_regionX Γ Δ [] [0, 1, 2, 3, 4, 5, 6, 7, 8, 9, 10, 11, 12, 13, 17, 23, 29, 49, 66, 67, 68, 69, 73, 90, 101] (evs ?_)
    all_goals (try with_reducible (repeat' (first | apply And.intro | intro _)))
    all_goals (try (first | with_reducible refine wa_id ?_ | exact True.intro | exact icheck_fn ⟨_, _, _⟩ | omega | exact fits_fn ⟨_, _, _⟩ ⟨_, _, _⟩ | exact mixp_fn ⟨_, _, _, _⟩ ⟨_, _, _, _⟩ _))
    refine WA_seq (x := (fcd Try.f30 [1, 1, 0, 1, 0])) (y := (fcd Try.f30 [1, 1, 0, 1, 1])) ?_
    refine V_regionX Γ Δ [] [0, 1, 2, 3, 4, 5, 6, 7, 8, 9, 10, 11, 12, 13, 17, 23, 29, 49, 66, 67, 68, 69, 73, 90, 101] (evs ?_)
    all_goals (try with_reducible (repeat' (first | apply And.intro | intro _)))
    all_goals (try (first | with_reducible refine wa_id ?_ | exact True.intro | omega | exact fits_fn ⟨_, _, _⟩ ⟨_, _, _⟩ | exact mixp_fn ⟨_, _, _, _⟩ ⟨_, _, _, _⟩ _))
    refine V_cond (evs ?_)
    refine ⟨fun hc => ?_, fun hc => ?_⟩
    · refine WA_seq (x := (fcd Try.f30 [1, 1, 0, 1, 1, 0, 0])) (y := (fcd Try.f30 [1, 1, 0, 1, 1, 0, 1])) ?_
      refine V_regionX Γ Δ [] [0, 1, 2, 3, 4, 5, 6, 7, 8, 9, 10, 11, 12, 13, 17, 23, 29, 49, 66, 67, 68, 69, 73, 90, 101] (evs ?_)
      all_goals (try with_reducible (repeat' (first | apply And.intro | intro _)))
      all_goals (try (first | with_reducible refine wa_id ?_ | exact True.intro | omega | exact fits_fn ⟨_, _, _⟩ ⟨_, _, _⟩ | exact mixp_fn ⟨_, _, _, _⟩ ⟨_, _, _, _⟩ _))
      refine V_ret (evs ?_)
      first | exact ik0 _ (mxx1 hc) | exact ik0 _ (mxx2 ‹_› hc) | exact ik0 _ (mxx3 ‹_› ‹_› hc) | exact ik0 _ (mxx4 ‹_› ‹_› ‹_› (mx_n hc)) | (rw [mx_end ha hb hm hf hc]; exact ik _ (mxx5 ha hb hm hf)) | (rw [mx_end ha hb hm hf hc]; exact ikl _ (by rw [tabP_len]) (mxx5 ha hb hm hf))
    · refine WA_skip ?_
      refine WA_seq (x := (fcd Try.f30 [1, 1, 1, 0])) (y := (fcd Try.f30 [1, 1, 1, 1])) ?_
      refine WA_seq (x := (fcd Try.f30 [1, 1, 1, 0, 0])) (y := (fcd Try.f30 [1, 1, 1, 0, 1])) ?_
      refine V_regionX Γ Δ [] [0, 1, 2, 3, 4, 5, 6, 7, 8, 9, 10, 11, 12, 13, 17, 23, 29, 49, 66, 67, 68, 69, 73, 90, 101] (evs ?_)
      all_goals (try with_reducible (repeat' (first | apply And.intro | intro _)))
      all_goals (try (first | with_reducible refine wa_id ?_ | exact True.intro | exact mcheck_fn ⟨_, _, _⟩ | omega | exact fits_fn ⟨_, _, _⟩ ⟨_, _, _⟩ | exact mixp_fn ⟨_, _, _, _⟩ ⟨_, _, _, _⟩ _))
      refine WA_seq (x := (fcd Try.f30 [1, 1, 1, 0, 1, 0])) (y := (fcd Try.f30 [1, 1, 1, 0, 1, 1])) ?_
      refine V_regionX Γ Δ [] [0, 1, 2, 3, 4, 5, 6, 7, 8, 9, 10, 11, 12, 13, 17, 23, 29, 49, 66, 67, 68, 69, 73, 90, 101] (evs ?_)
      all_goals (try with_reducible (repeat' (first | apply And.intro | intro _)))
      all_goals (try (first | with_reducible refine wa_id ?_ | exact True.intro | omega | exact fits_fn ⟨_, _, _⟩ ⟨_, _, _⟩ | exact mixp_fn ⟨_, _, _, _⟩ ⟨_, _, _, _⟩ _))
      refine V_cond (evs ?_)
      refine ⟨fun hc => ?_, fun hc => ?_⟩
      · refine WA_seq (x := (fcd Try.f30 [1, 1, 1, 0, 1, 1, 0, 0])) (y := (fcd Try.f30 [1, 1, 1, 0, 1, 1, 0, 1])) ?_
        refine V_regionX Γ Δ [] [0, 1, 2, 3, 4, 5, 6, 7, 8, 9, 10, 11, 12, 13, 17, 23, 29, 49, 66, 67, 68, 69, 73, 90, 101] (evs ?_)
        all_goals (try with_reducible (repeat' (first | apply And.intro | intro _)))
        all_goals (try (first | with_reducible refine wa_id ?_ | exact True.intro | omega | exact fits_fn ⟨_, _, _⟩ ⟨_, _, _⟩ | exact mixp_fn ⟨_, _, _, _⟩ ⟨_, _, _, _⟩ _))
        refine V_ret (evs ?_)
        first | exact ik0 _ (mxx1 hc) | exact ik0 _ (mxx2 ‹_› hc) | exact ik0 _ (mxx3 ‹_› ‹_› hc) | exact ik0 _ (mxx4 ‹_› ‹_› ‹_› (mx_n hc)) | (rw [mx_end ha hb hm hf hc]; exact ik _ (mxx5 ha hb hm hf)) | (rw [mx_end ha hb hm hf hc]; exact ikl _ (by rw [tabP_len]) (mxx5 ha hb hm hf))
      · refine WA_skip ?_
        refine WA_seq (x := (fcd Try.f30 [1, 1, 1, 1, 0])) (y := (fcd Try.f30 [1, 1, 1, 1, 1])) ?_
        refine WA_seq (x := (fcd Try.f30 [1, 1, 1, 1, 0, 0])) (y := (fcd Try.f30 [1, 1, 1, 1, 0, 1])) ?_
        refine V_regionX Γ Δ [] [0, 1, 2, 3, 4, 5, 6, 7, 8, 9, 10, 11, 12, 13, 17, 23, 29, 49, 66, 67, 68, 69, 73, 90, 101] (evs ?_)
        all_goals (try with_reducible (repeat' (first | apply And.intro | intro _)))
        all_goals (try (first | with_reducible refine wa_id ?_ | exact True.intro | exact fits_fn ⟨_, _, _⟩ ⟨_, _, _⟩ | omega | exact fits_fn ⟨_, _, _⟩ ⟨_, _, _⟩ | exact mixp_fn ⟨_, _, _, _⟩ ⟨_, _, _, _⟩ _))
        refine V_cond (evs ?_)
        refine ⟨fun hc => ?_, fun hc => ?_⟩
        · refine WA_seq (x := (fcd Try.f30 [1, 1, 1, 1, 0, 1, 0, 0])) (y := (fcd Try.f30 [1, 1, 1, 1, 0, 1, 0, 1])) ?_
          refine V_regionX Γ Δ [] [0, 1, 2, 3, 4, 5, 6, 7, 8, 9, 10, 11, 12, 13, 17, 23, 29, 49, 66, 67, 68, 69, 73, 90, 101] (evs ?_)
          all_goals (try with_reducible (repeat' (first | apply And.intro | intro _)))
          all_goals (try (first | with_reducible refine wa_id ?_ | exact True.intro | omega | exact fits_fn ⟨_, _, _⟩ ⟨_, _, _⟩ | exact mixp_fn ⟨_, _, _, _⟩ ⟨_, _, _, _⟩ _))
          refine V_ret (evs ?_)
          first | exact ik0 _ (mxx1 hc) | exact ik0 _ (mxx2 ‹_› hc) | exact ik0 _ (mxx3 ‹_› ‹_› hc) | exact ik0 _ (mxx4 ‹_› ‹_› ‹_› (mx_n hc)) | (rw [mx_end ha hb hm hf hc]; exact ik _ (mxx5 ha hb hm hf)) | (rw [mx_end ha hb hm hf hc]; exact ikl _ (by rw [tabP_len]) (mxx5 ha hb hm hf))
        · refine WA_skip ?_
          refine WA_seq (x := (fcd Try.f30 [1, 1, 1, 1, 1, 0])) (y := (fcd Try.f30 [1, 1, 1, 1, 1, 1])) ?_
          refine V_draw Γ [] [0, 1, 2, 3, 4, 5, 6, 7, 8, 9, 10, 11, 12, 13, 17, 23, 29, 49, 66, 67, 68, 69, 73, 90, 101] mixed (by kernel_rfl) (evs ?_)
          have ha := ‹ichkE a = 0›
          have hb := ‹ichkE b = 0›
          have hm := ‹mchkE m = 0›
          have hq := ichk0 ha
          have hqb := ichk0 hb
          have hnb := nn_bd hq.1
          have hnm := nn_bd (mchk0 hm).1
          have hlm := (mchk0 hm).2.2.1
          have hnbb := nn_bd hqb.1
          have hf : a.w = b.w ∧ a.h = b.h ∧ fitB m a = true := ⟨hc.1.1, hc.1.2, hc.2⟩
          have hll := mx_len ha hb ⟨hf.1, hf.2.1⟩
          all_goals (try with_reducible (repeat' (first | apply And.intro | intro _)))
          all_goals (try (first | with_reducible refine wa_id ?_ | exact True.intro | omega | exact fits_fn ⟨_, _, _⟩ ⟨_, _, _⟩ | exact mixp_fn ⟨_, _, _, _⟩ ⟨_, _, _, _⟩ _))
          refine WA_seq (x := (fcd Try.f30 [1, 1, 1, 1, 1, 1, 0])) (y := (fcd Try.f30 [1, 1, 1, 1, 1, 1, 1])) ?_
          refine V_regionX Γ Δ [] [0, 1, 2, 3, 4, 5, 6, 7, 8, 9, 10, 11, 12, 13, 17, 23, 29, 49, 66, 67, 68, 69, 73, 90, 101] (evs ?_)
          all_goals (try with_reducible (repeat' (first | apply And.intro | intro _)))
          all_goals (try (first | with_reducible refine wa_id ?_ | exact True.intro | omega | exact fits_fn ⟨_, _, _⟩ ⟨_, _, _⟩ | exact mixp_fn ⟨_, _, _, _⟩ ⟨_, _, _, _⟩ _))
          try simp only [cpy0]
          refine WA_seq (x := (fcd Try.f30 [1, 1, 1, 1, 1, 1, 1, 0])) (y := (fcd Try.f30 [1, 1, 1, 1, 1, 1, 1, 1])) ?_
          refine WA_seq (x := (fcd Try.f30 [1, 1, 1, 1, 1, 1, 1, 0, 0])) (y := (fcd Try.f30 [1, 1, 1, 1, 1, 1, 1, 0, 1])) ?_
          refine V_regionX Γ Δ [] [0, 1, 2, 3, 4, 5, 6, 7, 8, 9, 10, 11, 12, 13, 17, 23, 29, 49, 66, 67, 68, 69, 73, 90, 101] (evs ?_)
          all_goals (try with_reducible (repeat' (first | apply And.intro | intro _)))
          all_goals (try (first | with_reducible refine wa_id ?_ | exact True.intro | omega | exact fits_fn ⟨_, _, _⟩ ⟨_, _, _⟩ | exact mixp_fn ⟨_, _, _, _⟩ ⟨_, _, _, _⟩ _))
          refine WA_block (c := (fcd Try.f30 [1, 1, 1, 1, 1, 1, 1, 0, 1, 0])) ?_
          refine V_loop (c := (fcd Try.f30 [1, 1, 1, 1, 1, 1, 1, 0, 1, 0, 0])) (α := Nat) [12, 13, 68, 69, 73, 90, 101] [58, 18800, 18801, 18802, 18803] (fun k => [(68, .dat (.i (k : Int)))]) (fun k => [(58, some (true, .arr 49 4 ((filP b.p.length (mxF a b m) (fun k => b.p.getD k zP) k).map pxC)))]) (fun k => k ≤ m.v.length) (fun k => m.v.length - k) 0 [] ?_ (evs ?_) ?_
          · exact Nat.zero_le _
          · (try with_reducible (repeat' (first | apply And.intro | intro _)))
            all_goals (first | exact True.intro | omega | (first | exact cpy1 _ _ | (rw [← filP_0]; done) | rfl))
          · intro k hI
            refine WA_seq (x := (fcd Try.f30 [1, 1, 1, 1, 1, 1, 1, 0, 1, 0, 0, 0])) (y := (fcd Try.f30 [1, 1, 1, 1, 1, 1, 1, 0, 1, 0, 0, 1])) ?_
            refine V_regionX Γ Δ [] [0, 1, 2, 3, 4, 5, 6, 7, 8, 9, 10, 11, 12, 13, 17, 23, 29, 49, 66, 67, 68, 69, 73, 90, 101] (evs ?_)
            all_goals (try with_reducible (repeat' (first | apply And.intro | intro _)))
            all_goals (try (first | with_reducible refine wa_id ?_ | exact True.intro | omega | exact fits_fn ⟨_, _, _⟩ ⟨_, _, _⟩ | exact mixp_fn ⟨_, _, _, _⟩ ⟨_, _, _, _⟩ _))
            refine WA_seq (x := (fcd Try.f30 [1, 1, 1, 1, 1, 1, 1, 0, 1, 0, 0, 1, 0])) (y := (fcd Try.f30 [1, 1, 1, 1, 1, 1, 1, 0, 1, 0, 0, 1, 1])) ?_
            refine V_cond (evs ?_)
            refine ⟨fun hc => ?_, fun hc => ?_⟩
            · refine WA_skip ?_
              refine WA_seq (x := (fcd Try.f30 [1, 1, 1, 1, 1, 1, 1, 0, 1, 0, 0, 1, 1, 0])) (y := (fcd Try.f30 [1, 1, 1, 1, 1, 1, 1, 0, 1, 0, 0, 1, 1, 1])) ?_
              refine WA_block (c := (fcd Try.f30 [1, 1, 1, 1, 1, 1, 1, 0, 1, 0, 0, 1, 1, 0, 0])) ?_
              refine WA_seq (x := (fcd Try.f30 [1, 1, 1, 1, 1, 1, 1, 0, 1, 0, 0, 1, 1, 0, 0, 0])) (y := (fcd Try.f30 [1, 1, 1, 1, 1, 1, 1, 0, 1, 0, 0, 1, 1, 0, 0, 1])) ?_
              refine V_regionX Γ Δ [] [0, 1, 2, 3, 4, 5, 6, 7, 8, 9, 10, 11, 12, 13, 17, 23, 29, 49, 66, 67, 68, 69, 73, 90, 101] (evs ?_)
              have hor := mx_or (b := b) ‹(k : Int) < _› ha hm hf
              simp only [hor.1]
              all_goals (try with_reducible (repeat' (first | apply And.intro | intro _)))
              all_goals (try (first | with_reducible refine wa_id ?_ | exact True.intro | omega | exact fits_fn ⟨_, _, _⟩ ⟨_, _, _⟩ | exact mixp_fn ⟨_, _, _, _⟩ ⟨_, _, _, _⟩ _))
              refine WA_seq (x := (fcd Try.f30 [1, 1, 1, 1, 1, 1, 1, 0, 1, 0, 0, 1, 1, 0, 0, 1, 0])) (y := (fcd Try.f30 [1, 1, 1, 1, 1, 1, 1, 0, 1, 0, 0, 1, 1, 0, 0, 1, 1])) ?_
              refine V_regionX Γ Δ [] [0, 1, 2, 3, 4, 5, 6, 7, 8, 9, 10, 11, 12, 13, 17, 23, 29, 49, 66, 67, 68, 69, 73, 90, 101] (evs ?_)
              all_goals (try with_reducible (repeat' (first | apply And.intro | intro _)))
              all_goals (try (first | with_reducible refine wa_id ?_ | exact True.intro | omega | exact fits_fn ⟨_, _, _⟩ ⟨_, _, _⟩ | exact mixp_fn ⟨_, _, _, _⟩ ⟨_, _, _, _⟩ _))
              refine WA_block (c := (fcd Try.f30 [1, 1, 1, 1, 1, 1, 1, 0, 1, 0, 0, 1, 1, 0, 0, 1, 1, 0])) ?_
              refine WA_seq (x := (fcd Try.f30 [1, 1, 1, 1, 1, 1, 1, 0, 1, 0, 0, 1, 1, 0, 0, 1, 1, 0, 0])) (y := (fcd Try.f30 [1, 1, 1, 1, 1, 1, 1, 0, 1, 0, 0, 1, 1, 0, 0, 1, 1, 0, 1])) ?_
              refine V_regionX Γ Δ [] [0, 1, 2, 3, 4, 5, 6, 7, 8, 9, 10, 11, 12, 13, 17, 23, 29, 49, 66, 67, 68, 69, 73, 90, 101] (evs ?_)
              all_goals (try with_reducible (repeat' (first | apply And.intro | intro _)))
              all_goals (try (first | with_reducible refine wa_id ?_ | exact True.intro | omega | exact fits_fn ⟨_, _, _⟩ ⟨_, _, _⟩ | exact mixp_fn ⟨_, _, _, _⟩ ⟨_, _, _, _⟩ _))
              refine V_cond (evs ?_)
              refine ⟨fun hc => ?_, fun hc => ?_⟩
              · refine V_draw Γ [] [0, 1, 2, 3, 4, 5, 6, 7, 8, 9, 10, 11, 12, 13, 17, 23, 29, 49, 66, 67, 68, 69, 73, 90, 101] mixed (by kernel_rfl) (evs ?_)
                all_goals (try with_reducible (repeat' (first | apply And.intro | intro _)))
                all_goals (try (first | with_reducible refine wa_id ?_ | exact True.intro | omega | exact fits_fn ⟨_, _, _⟩ ⟨_, _, _⟩ | exact mixp_fn ⟨_, _, _, _⟩ ⟨_, _, _, _⟩ _))
                refine V_regionX Γ Δ [] [0, 1, 2, 3, 4, 5, 6, 7, 8, 9, 10, 11, 12, 13, 17, 23, 29, 49, 66, 67, 68, 69, 73, 90, 101] (evs ?_)
                all_goals (try with_reducible (repeat' (first | apply And.intro | intro _)))
                all_goals (try (first | with_reducible refine wa_id ?_ | exact True.intro | omega | exact fits_fn ⟨_, _, _⟩ ⟨_, _, _⟩ | exact mixp_fn ⟨_, _, _, _⟩ ⟨_, _, _, _⟩ _))
                refine V_next [] (k + 1) (evs ?_) ?_ ?_
                all_goals (try with_reducible (repeat' (first | apply And.intro | intro _)))
                all_goals (first | exact True.intro | omega | (first | exact w64l (n := 65536) (by omega) (by omega) | exact filP_setC (mxF_0 hc) | (rw [← filP_skip (mxF_1 hc)]; done) | exact filP_setC (mxF_2 ‹_› hc)))
              · refine WA_seq (x := (fcd Try.f30 [1, 1, 1, 1, 1, 1, 1, 0, 1, 0, 0, 1, 1, 0, 0, 1, 1, 0, 1, 1, 0])) (y := (fcd Try.f30 [1, 1, 1, 1, 1, 1, 1, 0, 1, 0, 0, 1, 1, 0, 0, 1, 1, 0, 1, 1, 1])) ?_
                refine V_regionX Γ Δ [] [0, 1, 2, 3, 4, 5, 6, 7, 8, 9, 10, 11, 12, 13, 17, 23, 29, 49, 66, 67, 68, 69, 73, 90, 101] (evs ?_)
                all_goals (try with_reducible (repeat' (first | apply And.intro | intro _)))
                all_goals (try (first | with_reducible refine wa_id ?_ | exact True.intro | omega | exact fits_fn ⟨_, _, _⟩ ⟨_, _, _⟩ | exact mixp_fn ⟨_, _, _, _⟩ ⟨_, _, _, _⟩ _))
                refine V_cond (evs ?_)
                refine ⟨fun hc => ?_, fun hc => ?_⟩
                · refine WA_skip ?_
                  refine V_regionX Γ Δ [] [0, 1, 2, 3, 4, 5, 6, 7, 8, 9, 10, 11, 12, 13, 17, 23, 29, 49, 66, 67, 68, 69, 73, 90, 101] (evs ?_)
                  all_goals (try with_reducible (repeat' (first | apply And.intro | intro _)))
                  all_goals (try (first | with_reducible refine wa_id ?_ | exact True.intro | omega | exact fits_fn ⟨_, _, _⟩ ⟨_, _, _⟩ | exact mixp_fn ⟨_, _, _, _⟩ ⟨_, _, _, _⟩ _))
                  refine V_next [] (k + 1) (evs ?_) ?_ ?_
                  all_goals (try with_reducible (repeat' (first | apply And.intro | intro _)))
                  all_goals (first | exact True.intro | omega | (first | exact w64l (n := 65536) (by omega) (by omega) | exact filP_setC (mxF_0 hc) | (rw [← filP_skip (mxF_1 hc)]; done) | exact filP_setC (mxF_2 ‹_› hc)))
                · refine V_draw Γ [] [0, 1, 2, 3, 4, 5, 6, 7, 8, 9, 10, 11, 12, 13, 17, 23, 29, 49, 66, 67, 68, 69, 73, 90, 101] mixed (by kernel_rfl) (evs ?_)
                  all_goals (try with_reducible (repeat' (first | apply And.intro | intro _)))
                  all_goals (try (first | with_reducible refine wa_id ?_ | exact True.intro | exact mixp_fn ⟨_, _, _, _⟩ ⟨_, _, _, _⟩ _ | omega | exact fits_fn ⟨_, _, _⟩ ⟨_, _, _⟩ | exact mixp_fn ⟨_, _, _, _⟩ ⟨_, _, _, _⟩ _))
                  refine V_regionX Γ Δ [] [0, 1, 2, 3, 4, 5, 6, 7, 8, 9, 10, 11, 12, 13, 17, 23, 29, 49, 66, 67, 68, 69, 73, 90, 101] (evs ?_)
                  all_goals (try with_reducible (repeat' (first | apply And.intro | intro _)))
                  all_goals (try (first | with_reducible refine wa_id ?_ | exact True.intro | omega | exact fits_fn ⟨_, _, _⟩ ⟨_, _, _⟩ | exact mixp_fn ⟨_, _, _, _⟩ ⟨_, _, _, _⟩ _))
                  refine V_next [] (k + 1) (evs ?_) ?_ ?_
                  all_goals (try with_reducible (repeat' (first | apply And.intro | intro _)))
                  all_goals (first | exact True.intro | omega | (first | exact w64l (n := 65536) (by omega) (by omega) | exact filP_setC (mxF_0 hc) | (rw [← filP_skip (mxF_1 hc)]; done) | exact filP_setC (mxF_2 ‹_› hc)))
            · refine V_exit (evs ?_)
              refine WA_seq (x := (fcd Try.f30 [1, 1, 1, 1, 1, 1, 1, 1, 0])) (y := (fcd Try.f30 [1, 1, 1, 1, 1, 1, 1, 1, 1])) ?_
              refine V_regionX Γ Δ [] [0, 1, 2, 3, 4, 5, 6, 7, 8, 9, 10, 11, 12, 13, 17, 23, 29, 49, 66, 67, 68, 69, 73, 90, 101] (evs ?_)
              all_goals (try with_reducible (repeat' (first | apply And.intro | intro _)))
              all_goals (try (first | with_reducible refine wa_id ?_ | exact True.intro | omega | exact fits_fn ⟨_, _, _⟩ ⟨_, _, _⟩ | exact mixp_fn ⟨_, _, _, _⟩ ⟨_, _, _, _⟩ _))
              refine V_ret (evs ?_)
              first | exact ik0 _ (mxx1 hc) | exact ik0 _ (mxx2 ‹_› hc) | exact ik0 _ (mxx3 ‹_› ‹_› hc) | exact ik0 _ (mxx4 ‹_› ‹_› ‹_› (mx_n hc)) | (rw [mx_end ha hb hm hf hc]; exact ik _ (mxx5 ha hb hm hf)) | (rw [mx_end ha hb hm hf hc]; exact ikl _ (by rw [tabP_len]) (mxx5 ha hb hm hf))

end Go.S23

