import Derived.Test.YtgkflbibpkkegaaGreatDoorA3
import Derived.Test.YtgkflbibpkkegaaGreatDoorA1
set_option linter.unusedSimpArgs false
set_option linter.unusedVariables false
set_option linter.unusedSimpArgs false
set_option linter.unusedVariables false
namespace Go.S35
open Go.RowKit Go.Proofs Go.Eng Go.Rect
theorem rblank_fn (w h : Int) (hz : Z0 w h) : Eng.Fn Tryz.prog 42 [.i w, .i h] (.agg [.dat (.i w), .dat (.i h), .own 44 4 ((bkI ⟨0, 0, w, h⟩).p.map pxC)]) := by
  refine Eng.Fn.by (fn := Tryz.f42) 12 [.cell 4 31] Tryz.func42 rfl Tryz.ntmps42 rfl (by simp) fun w0 G0 => ?_
  refine WA_seq (x := (fcd Tryz.f42 [0])) (y := (fcd Tryz.f42 [1])) ?_
  refine V_regionX Γ Δ [] [0, 1, 4] (evs ?_)
  all_goals (try with_reducible (repeat' (first | apply And.intro | intro _)))
  all_goals (try (first | with_reducible refine wa_id ?_ | exact True.intro | omega))
  refine WA_seq (x := (fcd Tryz.f42 [1, 0])) (y := (fcd Tryz.f42 [1, 1])) ?_
  refine V_regionX Γ Δ [] [0, 1, 4] (evs ?_)
  have hnb := nn_bd hz
  simp only [wN hz, Int.toNat_natCast]
  all_goals (try with_reducible (repeat' (first | apply And.intro | intro _)))
  all_goals (try (first | with_reducible refine wa_id ?_ | exact True.intro | omega))
  refine V_ret (evs ?_)
  first | exact rep_t _ | exact ⟨rfl, rfl, rep_t _⟩ | (simp only [rep_t]; done)

set_option maxHeartbeats 4000000 in
theorem pnwp_fn (w h : Int) (p : Px) : Eng.Fn Tryz.prog 23 [.i w, .i h, pxD p] (.tup [.agg [.dat (.i (nwpR w h p).w), .dat (.i (nwpR w h p).h), .own 44 4 ((nwpR w h p).p.map pxC)], .dat (.i (nwpE w h p))]) := by
  refine Eng.Fn.by (fn := Tryz.f23) 35 [.cell 6 31, .tmp 7] Tryz.func23 rfl Tryz.ntmps23 rfl (by simp) fun w0 G0 => ?_
  refine WA_seq (x := (fcd Tryz.f23 [0])) (y := (fcd Tryz.f23 [1])) ?_
  refine V_regionX Γ Δ [] [0, 1, 2, 5, 6, 7, 8, 9, 13, 17, 24, 25, 26] (evs ?_)
  all_goals (try with_reducible (repeat' (first | apply And.intro | intro _)))
  all_goals (try (first | with_reducible refine wa_id ?_ | exact True.intro | omega))
  refine WA_seq (x := (fcd Tryz.f23 [1, 0])) (y := (fcd Tryz.f23 [1, 1])) ?_
  refine WA_seq (x := (fcd Tryz.f23 [1, 0, 0])) (y := (fcd Tryz.f23 [1, 0, 1])) ?_
  refine V_regionX Γ Δ [] [0, 1, 2, 5, 6, 7, 8, 9, 13, 17, 24, 25, 26] (evs ?_)
  all_goals (try with_reducible (repeat' (first | apply And.intro | intro _)))
  all_goals (try (first | with_reducible refine wa_id ?_ | exact True.intro | exact isz_fn _ _ | omega))
  refine V_cond (evs ?_)
  refine ⟨fun hc => ?_, fun hc => ?_⟩
  · refine WA_seq (x := (fcd Tryz.f23 [1, 0, 1, 0, 0])) (y := (fcd Tryz.f23 [1, 0, 1, 0, 1])) ?_
    refine V_regionX Γ Δ [] [0, 1, 2, 5, 6, 7, 8, 9, 13, 17, 24, 25, 26] (evs ?_)
    all_goals (try with_reducible (repeat' (first | apply And.intro | intro _)))
    all_goals (try (first | with_reducible refine wa_id ?_ | exact True.intro | omega))
    refine V_ret (evs ?_)
    first | exact ik0 _ (np1 hc) | exact ik0 _ (np2 hs hc) | (rw [falN hK hc]; exact ik _ (np3 hs hv))
  · refine WA_skip ?_
    refine WA_seq (x := (fcd Tryz.f23 [1, 1, 0])) (y := (fcd Tryz.f23 [1, 1, 1])) ?_
    refine WA_seq (x := (fcd Tryz.f23 [1, 1, 0, 0])) (y := (fcd Tryz.f23 [1, 1, 0, 1])) ?_
    refine V_regionX Γ Δ [] [0, 1, 2, 5, 6, 7, 8, 9, 13, 17, 24, 25, 26] (evs ?_)
    have hs := hc
    all_goals (try with_reducible (repeat' (first | apply And.intro | intro _)))
    all_goals (try (first | with_reducible refine wa_id ?_ | exact True.intro | exact pvalid6_fn ⟨_, _, _, _⟩ | omega))
    refine V_cond (evs ?_)
    refine ⟨fun hc => ?_, fun hc => ?_⟩
    · refine WA_seq (x := (fcd Tryz.f23 [1, 1, 0, 1, 0, 0])) (y := (fcd Tryz.f23 [1, 1, 0, 1, 0, 1])) ?_
      refine V_regionX Γ Δ [] [0, 1, 2, 5, 6, 7, 8, 9, 13, 17, 24, 25, 26] (evs ?_)
      all_goals (try with_reducible (repeat' (first | apply And.intro | intro _)))
      all_goals (try (first | with_reducible refine wa_id ?_ | exact True.intro | omega))
      refine V_ret (evs ?_)
      first | exact ik0 _ (np1 hc) | exact ik0 _ (np2 hs hc) | (rw [falN hK hc]; exact ik _ (np3 hs hv))
    · refine WA_skip ?_
      refine WA_seq (x := (fcd Tryz.f23 [1, 1, 1, 0])) (y := (fcd Tryz.f23 [1, 1, 1, 1])) ?_
      refine V_regionX Γ Δ [] [0, 1, 2, 5, 6, 7, 8, 9, 13, 17, 24, 25, 26] (evs ?_)
      have hv := hc
      have hz := isz_z hs
      have hz2 := hz
      unfold Z0 at hz2
      have hnb := nn_bd hz
      all_goals (try with_reducible (repeat' (first | apply And.intro | intro _)))
      all_goals (try (first | with_reducible refine wa_id ?_ | exact True.intro | exact rblank_fn _ _ (by assumption) | omega))
      refine WA_seq (x := (fcd Tryz.f23 [1, 1, 1, 1, 0])) (y := (fcd Tryz.f23 [1, 1, 1, 1, 1])) ?_
      refine WA_seq (x := (fcd Tryz.f23 [1, 1, 1, 1, 0, 0])) (y := (fcd Tryz.f23 [1, 1, 1, 1, 0, 1])) ?_
      refine V_regionX Γ Δ [] [0, 1, 2, 5, 6, 7, 8, 9, 13, 17, 24, 25, 26] (evs ?_)
      all_goals (try with_reducible (repeat' (first | apply And.intro | intro _)))
      all_goals (try (first | with_reducible refine wa_id ?_ | exact True.intro | omega))
      refine WA_block (c := (fcd Tryz.f23 [1, 1, 1, 1, 0, 1, 0])) ?_
      refine V_loop (c := (fcd Tryz.f23 [1, 1, 1, 1, 0, 1, 0, 0])) (α := Nat) [9, 25, 26] [12100] (fun k => [(25, .dat (.i (k : Int)))]) (fun k => [(12100, some (true, .arr 44 4 ((filP (nn w h) (fun _ => p) (fun _ => zP) k).map pxC)))]) (fun k => k ≤ nn w h) (fun k => nn w h - k) 0 [] ?_ (evs ?_) ?_
      · exact Nat.zero_le _
      · (try with_reducible (repeat' (first | apply And.intro | intro _)))
        all_goals (first | exact True.intro | omega | (first | exact bk_f _ _ | rfl))
      · intro k hK
        refine WA_seq (x := (fcd Tryz.f23 [1, 1, 1, 1, 0, 1, 0, 0, 0])) (y := (fcd Tryz.f23 [1, 1, 1, 1, 0, 1, 0, 0, 1])) ?_
        refine V_regionX Γ Δ [] [0, 1, 2, 5, 6, 7, 8, 9, 13, 17, 24, 25, 26] (evs ?_)
        all_goals (try with_reducible (repeat' (first | apply And.intro | intro _)))
        all_goals (try (first | with_reducible refine wa_id ?_ | exact True.intro | omega))
        refine WA_seq (x := (fcd Tryz.f23 [1, 1, 1, 1, 0, 1, 0, 0, 1, 0])) (y := (fcd Tryz.f23 [1, 1, 1, 1, 0, 1, 0, 0, 1, 1])) ?_
        refine V_cond (evs ?_)
        refine ⟨fun hc => ?_, fun hc => ?_⟩
        · refine WA_skip ?_
          refine WA_seq (x := (fcd Tryz.f23 [1, 1, 1, 1, 0, 1, 0, 0, 1, 1, 0])) (y := (fcd Tryz.f23 [1, 1, 1, 1, 0, 1, 0, 0, 1, 1, 1])) ?_
          refine WA_block (c := (fcd Tryz.f23 [1, 1, 1, 1, 0, 1, 0, 0, 1, 1, 0, 0])) ?_
          refine WA_seq (x := (fcd Tryz.f23 [1, 1, 1, 1, 0, 1, 0, 0, 1, 1, 0, 0, 0])) (y := (fcd Tryz.f23 [1, 1, 1, 1, 0, 1, 0, 0, 1, 1, 0, 0, 1])) ?_
          refine V_regionX Γ Δ [] [0, 1, 2, 5, 6, 7, 8, 9, 13, 17, 24, 25, 26] (evs ?_)
          all_goals (try with_reducible (repeat' (first | apply And.intro | intro _)))
          all_goals (try (first | with_reducible refine wa_id ?_ | exact True.intro | omega))
          refine V_regionX Γ Δ [] [0, 1, 2, 5, 6, 7, 8, 9, 13, 17, 24, 25, 26] (evs ?_)
          all_goals (try with_reducible (repeat' (first | apply And.intro | intro _)))
          all_goals (try (first | with_reducible refine wa_id ?_ | exact True.intro | omega))
          refine V_regionX Γ Δ [] [0, 1, 2, 5, 6, 7, 8, 9, 13, 17, 24, 25, 26] (evs ?_)
          all_goals (try with_reducible (repeat' (first | apply And.intro | intro _)))
          all_goals (try (first | with_reducible refine wa_id ?_ | exact True.intro | omega))
          refine V_next [] (k + 1) (evs ?_) ?_ ?_
          all_goals (try with_reducible (repeat' (first | apply And.intro | intro _)))
          all_goals (first | exact True.intro | omega | (first | exact w64l (n := 65536) (by omega) (by omega) | exact filP_setC rfl))
        · refine V_exit (evs ?_)
          refine WA_seq (x := (fcd Tryz.f23 [1, 1, 1, 1, 1, 0])) (y := (fcd Tryz.f23 [1, 1, 1, 1, 1, 1])) ?_
          refine V_regionX Γ Δ [] [0, 1, 2, 5, 6, 7, 8, 9, 13, 17, 24, 25, 26] (evs ?_)
          all_goals (try with_reducible (repeat' (first | apply And.intro | intro _)))
          all_goals (try (first | with_reducible refine wa_id ?_ | exact True.intro | omega))
          refine V_ret (evs ?_)
          first | exact ik0 _ (np1 hc) | exact ik0 _ (np2 hs hc) | (rw [falN hK hc]; exact ik _ (np3 hs hv))

theorem rat_fn (m : Im) (x y : Int) (hm : ichkE m = 0) : Eng.Fn Tryz.prog 43 [imD m, .i x, .i y] (.dat (pxD (pickP m x y))) := by
  refine Eng.Fn.by (fn := Tryz.f43) 36 [.cell 6 44] Tryz.func43 rfl Tryz.ntmps43 rfl (by simp) fun w0 G0 => ?_
  refine WA_seq (x := (fcd Tryz.f43 [0])) (y := (fcd Tryz.f43 [1])) ?_
  refine V_regionX Γ Δ [] [0, 1, 2, 3, 6, 24] (evs ?_)
  all_goals (try with_reducible (repeat' (first | apply And.intro | intro _)))
  all_goals (try (first | with_reducible refine wa_id ?_ | exact True.intro | omega))
  refine WA_seq (x := (fcd Tryz.f43 [1, 0])) (y := (fcd Tryz.f43 [1, 1])) ?_
  refine WA_seq (x := (fcd Tryz.f43 [1, 0, 0])) (y := (fcd Tryz.f43 [1, 0, 1])) ?_
  refine V_regionX Γ Δ [] [0, 1, 2, 3, 6, 24] (evs ?_)
  all_goals (try with_reducible (repeat' (first | apply And.intro | intro _)))
  all_goals (try (first | with_reducible refine wa_id ?_ | exact True.intro | omega))
  refine V_cond (evs ?_)
  refine ⟨fun hc => ?_, fun hc => ?_⟩
  · refine WA_seq (x := (fcd Tryz.f43 [1, 0, 1, 0, 0])) (y := (fcd Tryz.f43 [1, 0, 1, 0, 1])) ?_
    refine V_regionX Γ Δ [] [0, 1, 2, 3, 6, 24] (evs ?_)
    all_goals (try with_reducible (repeat' (first | apply And.intro | intro _)))
    all_goals (try (first | with_reducible refine wa_id ?_ | exact True.intro | omega))
    refine V_ret (evs ?_)
    first | exact pe (p := zP) (pkp0 hc) | exact pe (pkp1 hc)
  · refine WA_skip ?_
    refine WA_seq (x := (fcd Tryz.f43 [1, 1, 0])) (y := (fcd Tryz.f43 [1, 1, 1])) ?_
    refine V_regionX Γ Δ [] [0, 1, 2, 3, 6, 24] (evs ?_)
    have ha := pkp_ix hm (pkp_h hc)
    (try simp (maxSteps := 10000000) (disch := omega) only [w64])
    all_goals (try with_reducible (repeat' (first | apply And.intro | intro _)))
    all_goals (try (first | with_reducible refine wa_id ?_ | exact True.intro | omega))
    refine V_ret (evs ?_)
    first | exact pe (p := zP) (pkp0 hc) | exact pe (pkp1 hc)

set_option maxHeartbeats 8000000 in
set_option maxRecDepth 100000 in
theorem pcrp_fn (m : Im) (r : Rc) : Eng.Fn Tryz.prog 22 [imD m, rcD r] (.tup [.agg [.dat (.i (crpR m r).w), .dat (.i (crpR m r).h), .own 44 4 ((crpR m r).p.map pxC)], .dat (.i (crpE m r))]) := by
  refine Eng.Fn.by (fn := Tryz.f22) 64 [.cell 4 31, .tmp 5] Tryz.func22 rfl Tryz.ntmps22 rfl (by simp) fun w0 G0 => ?_
  refine WA_seq (x := (fcd Tryz.f22 [0])) (y := (fcd Tryz.f22 [1])) ?_
  refine V_regionX Γ Δ [] [0, 1, 2, 3, 4, 5, 6, 7, 8, 12, 17, 26, 29, 38, 39, 40] (evs ?_)
  all_goals (try with_reducible (repeat' (first | apply And.intro | intro _)))
  all_goals (try (first | with_reducible refine wa_id ?_ | exact True.intro | omega))
  refine WA_seq (x := (fcd Tryz.f22 [1, 0])) (y := (fcd Tryz.f22 [1, 1])) ?_
  refine WA_seq (x := (fcd Tryz.f22 [1, 0, 0])) (y := (fcd Tryz.f22 [1, 0, 1])) ?_
  refine V_regionX Γ Δ [] [0, 1, 2, 3, 4, 5, 6, 7, 8, 12, 17, 26, 29, 38, 39, 40] (evs ?_)
  all_goals (try with_reducible (repeat' (first | apply And.intro | intro _)))
  all_goals (try (first | with_reducible refine wa_id ?_ | exact True.intro | exact icheck_fn ⟨_, _, _⟩ | omega))
  refine WA_seq (x := (fcd Tryz.f22 [1, 0, 1, 0])) (y := (fcd Tryz.f22 [1, 0, 1, 1])) ?_
  refine V_regionX Γ Δ [] [0, 1, 2, 3, 4, 5, 6, 7, 8, 12, 17, 26, 29, 38, 39, 40] (evs ?_)
  all_goals (try with_reducible (repeat' (first | apply And.intro | intro _)))
  all_goals (try (first | with_reducible refine wa_id ?_ | exact True.intro | omega))
  refine V_cond (evs ?_)
  refine ⟨fun hc => ?_, fun hc => ?_⟩
  · refine WA_seq (x := (fcd Tryz.f22 [1, 0, 1, 1, 0, 0])) (y := (fcd Tryz.f22 [1, 0, 1, 1, 0, 1])) ?_
    refine V_regionX Γ Δ [] [0, 1, 2, 3, 4, 5, 6, 7, 8, 12, 17, 26, 29, 38, 39, 40] (evs ?_)
    all_goals (try with_reducible (repeat' (first | apply And.intro | intro _)))
    all_goals (try (first | with_reducible refine wa_id ?_ | exact True.intro | omega))
    refine V_ret (evs ?_)
    first | exact ik0 _ (crq1 hc) | exact ik0 _ (crq2 ‹_› hc) | exact ik0 _ (crq3 ‹_› ‹_› hc) | exact ik0 _ (crq4 ‹_› ‹_› ‹_› hc) | (rw [falN hK hc]; exact ik _ (crq5 hm hv hs hw))
  · refine WA_skip ?_
    refine WA_seq (x := (fcd Tryz.f22 [1, 1, 0])) (y := (fcd Tryz.f22 [1, 1, 1])) ?_
    refine WA_seq (x := (fcd Tryz.f22 [1, 1, 0, 0])) (y := (fcd Tryz.f22 [1, 1, 0, 1])) ?_
    refine V_regionX Γ Δ [] [0, 1, 2, 3, 4, 5, 6, 7, 8, 12, 17, 26, 29, 38, 39, 40] (evs ?_)
    all_goals (try with_reducible (repeat' (first | apply And.intro | intro _)))
    all_goals (try (first | with_reducible refine wa_id ?_ | exact True.intro | exact valid_fn _ | omega))
    refine V_cond (evs ?_)
    refine ⟨fun hc => ?_, fun hc => ?_⟩
    · refine WA_seq (x := (fcd Tryz.f22 [1, 1, 0, 1, 0, 0])) (y := (fcd Tryz.f22 [1, 1, 0, 1, 0, 1])) ?_
      refine V_regionX Γ Δ [] [0, 1, 2, 3, 4, 5, 6, 7, 8, 12, 17, 26, 29, 38, 39, 40] (evs ?_)
      all_goals (try with_reducible (repeat' (first | apply And.intro | intro _)))
      all_goals (try (first | with_reducible refine wa_id ?_ | exact True.intro | omega))
      refine V_ret (evs ?_)
      first | exact ik0 _ (crq1 hc) | exact ik0 _ (crq2 ‹_› hc) | exact ik0 _ (crq3 ‹_› ‹_› hc) | exact ik0 _ (crq4 ‹_› ‹_› ‹_› hc) | (rw [falN hK hc]; exact ik _ (crq5 hm hv hs hw))
    · refine WA_skip ?_
      refine WA_seq (x := (fcd Tryz.f22 [1, 1, 1, 0])) (y := (fcd Tryz.f22 [1, 1, 1, 1])) ?_
      refine WA_seq (x := (fcd Tryz.f22 [1, 1, 1, 0, 0])) (y := (fcd Tryz.f22 [1, 1, 1, 0, 1])) ?_
      refine V_regionX Γ Δ [] [0, 1, 2, 3, 4, 5, 6, 7, 8, 12, 17, 26, 29, 38, 39, 40] (evs ?_)
      all_goals (try with_reducible (repeat' (first | apply And.intro | intro _)))
      all_goals (try (first | with_reducible refine wa_id ?_ | exact True.intro | omega))
      refine V_cond (evs ?_)
      refine ⟨fun hc => ?_, fun hc => ?_⟩
      · refine WA_seq (x := (fcd Tryz.f22 [1, 1, 1, 0, 1, 0, 0])) (y := (fcd Tryz.f22 [1, 1, 1, 0, 1, 0, 1])) ?_
        refine V_regionX Γ Δ [] [0, 1, 2, 3, 4, 5, 6, 7, 8, 12, 17, 26, 29, 38, 39, 40] (evs ?_)
        all_goals (try with_reducible (repeat' (first | apply And.intro | intro _)))
        all_goals (try (first | with_reducible refine wa_id ?_ | exact True.intro | omega))
        refine V_ret (evs ?_)
        first | exact ik0 _ (crq1 hc) | exact ik0 _ (crq2 ‹_› hc) | exact ik0 _ (crq3 ‹_› ‹_› hc) | exact ik0 _ (crq4 ‹_› ‹_› ‹_› hc) | (rw [falN hK hc]; exact ik _ (crq5 hm hv hs hw))
      · refine WA_skip ?_
        refine WA_seq (x := (fcd Tryz.f22 [1, 1, 1, 1, 0])) (y := (fcd Tryz.f22 [1, 1, 1, 1, 1])) ?_
        refine WA_seq (x := (fcd Tryz.f22 [1, 1, 1, 1, 0, 0])) (y := (fcd Tryz.f22 [1, 1, 1, 1, 0, 1])) ?_
        refine V_regionX Γ Δ [] [0, 1, 2, 3, 4, 5, 6, 7, 8, 12, 17, 26, 29, 38, 39, 40] (evs ?_)
        all_goals (try with_reducible (repeat' (first | apply And.intro | intro _)))
        all_goals (try (first | with_reducible refine wa_id ?_ | exact True.intro | exact empty_fn _ | omega))
        refine V_cond (evs ?_)
        refine ⟨fun hc => ?_, fun hc => ?_⟩
        · refine WA_seq (x := (fcd Tryz.f22 [1, 1, 1, 1, 0, 1, 0, 0])) (y := (fcd Tryz.f22 [1, 1, 1, 1, 0, 1, 0, 1])) ?_
          refine V_regionX Γ Δ [] [0, 1, 2, 3, 4, 5, 6, 7, 8, 12, 17, 26, 29, 38, 39, 40] (evs ?_)
          all_goals (try with_reducible (repeat' (first | apply And.intro | intro _)))
          all_goals (try (first | with_reducible refine wa_id ?_ | exact True.intro | omega))
          refine V_ret (evs ?_)
          first | exact ik0 _ (crq1 hc) | exact ik0 _ (crq2 ‹_› hc) | exact ik0 _ (crq3 ‹_› ‹_› hc) | exact ik0 _ (crq4 ‹_› ‹_› ‹_› hc) | (rw [falN hK hc]; exact ik _ (crq5 hm hv hs hw))
        · refine WA_skip ?_
          refine WA_seq (x := (fcd Tryz.f22 [1, 1, 1, 1, 1, 0])) (y := (fcd Tryz.f22 [1, 1, 1, 1, 1, 1])) ?_
          refine V_regionX Γ Δ [] [0, 1, 2, 3, 4, 5, 6, 7, 8, 12, 17, 26, 29, 38, 39, 40] (evs ?_)
          have hm := ‹ichkE m = 0›
          have hv := ‹validB r = true›
          have hs := ‹r.w ≤ 256 ∧ r.h ≤ 256›
          have hw := hc
          have hz := cr_z hw hs
          have hz2 := hz
          unfold Z0 at hz2
          have hnb := nn_bd hz
          have he := empty_spec.1 hw
          all_goals (try with_reducible (repeat' (first | apply And.intro | intro _)))
          all_goals (try (first | with_reducible refine wa_id ?_ | exact True.intro | exact rblank_fn _ _ (by assumption) | omega))
          refine WA_seq (x := (fcd Tryz.f22 [1, 1, 1, 1, 1, 1, 0])) (y := (fcd Tryz.f22 [1, 1, 1, 1, 1, 1, 1])) ?_
          refine WA_seq (x := (fcd Tryz.f22 [1, 1, 1, 1, 1, 1, 0, 0])) (y := (fcd Tryz.f22 [1, 1, 1, 1, 1, 1, 0, 1])) ?_
          refine V_regionX Γ Δ [] [0, 1, 2, 3, 4, 5, 6, 7, 8, 12, 17, 26, 29, 38, 39, 40] (evs ?_)
          all_goals (try with_reducible (repeat' (first | apply And.intro | intro _)))
          all_goals (try (first | with_reducible refine wa_id ?_ | exact True.intro | omega))
          refine WA_block (c := (fcd Tryz.f22 [1, 1, 1, 1, 1, 1, 0, 1, 0])) ?_
          refine V_loop (c := (fcd Tryz.f22 [1, 1, 1, 1, 1, 1, 0, 1, 0, 0])) (α := Nat) [8, 39, 40] [13500, 16000, 16001, 16002, 16003] (fun k => [(39, .dat (.i (k : Int)))]) (fun k => [(13500, some (true, .arr 44 4 ((filP (nn r.w r.h) (gP r.w.toNat (crpF m r)) (fun _ => zP) k).map pxC)))]) (fun k => k ≤ nn r.w r.h) (fun k => nn r.w r.h - k) 0 [] ?_ (evs ?_) ?_
          · exact Nat.zero_le _
          · (try with_reducible (repeat' (first | apply And.intro | intro _)))
            all_goals (first | exact True.intro | omega | (first | exact bk_f _ _ | rfl))
          · intro k hK
            refine WA_seq (x := (fcd Tryz.f22 [1, 1, 1, 1, 1, 1, 0, 1, 0, 0, 0])) (y := (fcd Tryz.f22 [1, 1, 1, 1, 1, 1, 0, 1, 0, 0, 1])) ?_
            refine V_regionX Γ Δ [] [0, 1, 2, 3, 4, 5, 6, 7, 8, 12, 17, 26, 29, 38, 39, 40] (evs ?_)
            all_goals (try with_reducible (repeat' (first | apply And.intro | intro _)))
            all_goals (try (first | with_reducible refine wa_id ?_ | exact True.intro | omega))
            refine WA_seq (x := (fcd Tryz.f22 [1, 1, 1, 1, 1, 1, 0, 1, 0, 0, 1, 0])) (y := (fcd Tryz.f22 [1, 1, 1, 1, 1, 1, 0, 1, 0, 0, 1, 1])) ?_
            refine V_cond (evs ?_)
            refine ⟨fun hc => ?_, fun hc => ?_⟩
            · refine WA_skip ?_
              refine WA_seq (x := (fcd Tryz.f22 [1, 1, 1, 1, 1, 1, 0, 1, 0, 0, 1, 1, 0])) (y := (fcd Tryz.f22 [1, 1, 1, 1, 1, 1, 0, 1, 0, 0, 1, 1, 1])) ?_
              refine WA_block (c := (fcd Tryz.f22 [1, 1, 1, 1, 1, 1, 0, 1, 0, 0, 1, 1, 0, 0])) ?_
              refine WA_seq (x := (fcd Tryz.f22 [1, 1, 1, 1, 1, 1, 0, 1, 0, 0, 1, 1, 0, 0, 0])) (y := (fcd Tryz.f22 [1, 1, 1, 1, 1, 1, 0, 1, 0, 0, 1, 1, 0, 0, 1])) ?_
              refine V_regionX Γ Δ [] [0, 1, 2, 3, 4, 5, 6, 7, 8, 12, 17, 26, 29, 38, 39, 40] (evs ?_)
              all_goals (try with_reducible (repeat' (first | apply And.intro | intro _)))
              all_goals (try (first | with_reducible refine wa_id ?_ | exact True.intro | omega))
              refine V_draw Γ [] [0, 1, 2, 3, 4, 5, 6, 7, 8, 12, 17, 26, 29, 38, 39, 40] mixed (by kernel_rfl) (evs ?_)
              have hkw := ix_bd (k := k) hz (by omega)
              simp only [td_n hw, tm_n hw]
              simp only [w64N (Nat.le_trans (Nat.le_of_lt hkw.2.1) (show r.h.toNat ≤ 65536 by omega)), w64A ⟨he.2.1, he.2.2.1⟩ (Nat.le_trans (Nat.le_of_lt hkw.2.1) (show r.h.toNat ≤ 65536 by omega)), w64A ⟨he.1.1, he.1.2.1⟩ (Nat.le_trans (Nat.le_of_lt hkw.1.1) (show r.w.toNat ≤ 65536 by omega))]
              (try simp (maxSteps := 10000000) (disch := omega) only [w64])
              all_goals (try with_reducible (repeat' (first | apply And.intro | intro _)))
              all_goals (try (first | with_reducible refine wa_id ?_ | exact True.intro | exact rat_fn ⟨_, _, _⟩ _ _ hm | omega))
              refine V_regionX Γ Δ [] [0, 1, 2, 3, 4, 5, 6, 7, 8, 12, 17, 26, 29, 38, 39, 40] (evs ?_)
              all_goals (try with_reducible (repeat' (first | apply And.intro | intro _)))
              all_goals (try (first | with_reducible refine wa_id ?_ | exact True.intro | omega))
              refine V_next [] (k + 1) (evs ?_) ?_ ?_
              all_goals (try with_reducible (repeat' (first | apply And.intro | intro _)))
              all_goals (first | exact True.intro | omega | (first | exact w64l (n := 65536) (by omega) (by omega) | exact filP_setC rfl))
            · refine V_exit (evs ?_)
              refine WA_seq (x := (fcd Tryz.f22 [1, 1, 1, 1, 1, 1, 1, 0])) (y := (fcd Tryz.f22 [1, 1, 1, 1, 1, 1, 1, 1])) ?_
              refine V_regionX Γ Δ [] [0, 1, 2, 3, 4, 5, 6, 7, 8, 12, 17, 26, 29, 38, 39, 40] (evs ?_)
              all_goals (try with_reducible (repeat' (first | apply And.intro | intro _)))
              all_goals (try (first | with_reducible refine wa_id ?_ | exact True.intro | omega))
              refine V_ret (evs ?_)
              first | exact ik0 _ (crq1 hc) | exact ik0 _ (crq2 ‹_› hc) | exact ik0 _ (crq3 ‹_› ‹_› hc) | exact ik0 _ (crq4 ‹_› ‹_› ‹_› hc) | (rw [falN hK hc]; exact ik _ (crq5 hm hv hs hw))

end Go.S35

