import Derived.Test.YtdillkdhpalgcaaGreatG3
import Derived.Test.YtdillkdhpalgcaaGreatLJ
set_option linter.unusedSimpArgs false
set_option linter.unusedVariables false
set_option linter.unusedSimpArgs false
set_option linter.unusedVariables false
namespace Go.S16
open Go.RowKit Go.Proofs Go.Eng Go.Rect
theorem rbin_fn (n k : Int) (hk : 0 ≤ k) (hkn : k ≤ n) (hn : n ≤ 14) : Eng.Fn Tryz.prog 81 [.i n, .i k] (.dat (.i (pF n.toNat k.toNat))) := by
  obtain ⟨N, rfl⟩ := Int.eq_ofNat_of_zero_le (show 0 ≤ n by omega)
  obtain ⟨K, rfl⟩ := Int.eq_ofNat_of_zero_le hk
  simp only [Int.toNat_natCast]
  refine Eng.Fn.by (fn := Tryz.f81) 22 [.tmp 4] Tryz.func81 rfl Tryz.ntmps81 rfl (by simp) fun w0 G0 => ?_
  refine WA_seq (x := (fcd Tryz.f81 [0])) (y := (fcd Tryz.f81 [1])) ?_
  refine V_regionX Γ Δ [] [0, 1, 4, 5, 6, 9] (evs ?_)
  all_goals (try with_reducible (repeat' (first | apply And.intro | intro _)))
  all_goals (try (first | with_reducible refine wa_id ?_ | exact True.intro | omega))
  refine WA_seq (x := (fcd Tryz.f81 [1, 0])) (y := (fcd Tryz.f81 [1, 1])) ?_
  refine V_regionX Γ Δ [] [0, 1, 4, 5, 6, 9] (evs ?_)
  all_goals (try with_reducible (repeat' (first | apply And.intro | intro _)))
  all_goals (try (first | with_reducible refine wa_id ?_ | exact True.intro | omega))
  refine WA_seq (x := (fcd Tryz.f81 [1, 1, 0])) (y := (fcd Tryz.f81 [1, 1, 1])) ?_
  refine WA_seq (x := (fcd Tryz.f81 [1, 1, 0, 0])) (y := (fcd Tryz.f81 [1, 1, 0, 1])) ?_
  refine V_regionX Γ Δ [] [0, 1, 4, 5, 6, 9] (evs ?_)
  all_goals (try with_reducible (repeat' (first | apply And.intro | intro _)))
  all_goals (try (first | with_reducible refine wa_id ?_ | exact True.intro | omega))
  refine WA_block (c := (fcd Tryz.f81 [1, 1, 0, 1, 0])) ?_
  refine V_loop (c := (fcd Tryz.f81 [1, 1, 0, 1, 0, 0])) (α := Nat) [5, 6, 9] [] (fun i => [(6, .dat (.i (i : Int))), (5, .dat (.i (pF (N - K + (i - 1)) (i - 1))))]) (fun i => []) (fun i => 1 ≤ i ∧ i ≤ K + 1) (fun i => K + 1 - i) 1 [] ?_ (evs ?_) ?_
  · omega
  · (try with_reducible (repeat' (first | apply And.intro | intro _)))
    all_goals (first | exact True.intro | omega | (first | exact (pF0 _ (by omega)).symm | rfl))
  · intro i hI
    refine WA_seq (x := (fcd Tryz.f81 [1, 1, 0, 1, 0, 0, 0])) (y := (fcd Tryz.f81 [1, 1, 0, 1, 0, 0, 1])) ?_
    refine WA_seq (x := (fcd Tryz.f81 [1, 1, 0, 1, 0, 0, 0, 0])) (y := (fcd Tryz.f81 [1, 1, 0, 1, 0, 0, 0, 1])) ?_
    refine V_regionX Γ Δ [] [0, 1, 4, 5, 6, 9] (evs ?_)
    all_goals (try with_reducible (repeat' (first | apply And.intro | intro _)))
    all_goals (try (first | with_reducible refine wa_id ?_ | exact True.intro | omega))
    refine V_cond (evs ?_)
    refine ⟨fun hc => ?_, fun hc => ?_⟩
    · refine WA_skip ?_
      refine WA_seq (x := (fcd Tryz.f81 [1, 1, 0, 1, 0, 0, 1, 0])) (y := (fcd Tryz.f81 [1, 1, 0, 1, 0, 0, 1, 1])) ?_
      refine WA_block (c := (fcd Tryz.f81 [1, 1, 0, 1, 0, 0, 1, 0, 0])) ?_
      refine V_regionX Γ Δ [] [0, 1, 4, 5, 6, 9] (evs ?_)
      have bq := bin_s (N := N) (K := K) (i := i) hI (by omega) (by omega)
      have bb := pas_bd (k := N - K + (i - 1)) (by omega) (i - 1)
      have bm := bin_m bb (show (0 : Int) ≤ (N : Int) - K + i ∧ (N : Int) - K + i ≤ 14 by omega)
      (try simp (maxSteps := 10000000) (disch := omega) only [w64])
      all_goals (try with_reducible (repeat' (first | apply And.intro | intro _)))
      all_goals (try (first | with_reducible refine wa_id ?_ | exact True.intro | omega))
      refine V_regionX Γ Δ [] [0, 1, 4, 5, 6, 9] (evs ?_)
      all_goals (try with_reducible (repeat' (first | apply And.intro | intro _)))
      all_goals (try (first | with_reducible refine wa_id ?_ | exact True.intro | omega))
      refine V_next [] (i + 1) (evs ?_) ?_ ?_
      all_goals (try with_reducible (repeat' (first | apply And.intro | intro _)))
      all_goals (first | exact True.intro | omega | (first | exact w64l (n := 20) (by omega) (by omega) | (rw [bq]; exact w64 (by have := pas_bd (k := N - K + (i + 1 - 1)) (by omega) (i + 1 - 1); omega) (by have := pas_bd (k := N - K + (i + 1 - 1)) (by omega) (i + 1 - 1); omega))))
    · refine V_exit (evs ?_)
      refine WA_seq (x := (fcd Tryz.f81 [1, 1, 1, 0])) (y := (fcd Tryz.f81 [1, 1, 1, 1])) ?_
      refine V_regionX Γ Δ [] [0, 1, 4, 5, 6, 9] (evs ?_)
      all_goals (try with_reducible (repeat' (first | apply And.intro | intro _)))
      all_goals (try (first | with_reducible refine wa_id ?_ | exact True.intro | omega))
      refine V_ret (evs ?_)
      first | rfl | exact bin_e hI (by omega) (by omega)

theorem rvalue_fn (p : Px) (c : Nat) : Eng.Fn Tryz.prog 99 [pxD p, .i (c : Int)] (.dat (.i (chn c p))) := by
  refine Eng.Fn.by (fn := Tryz.f99) 19 [.tmp 4] Tryz.func99 rfl Tryz.ntmps99 rfl (by simp) fun w0 G0 => ?_
  refine WA_seq (x := (fcd Tryz.f99 [0])) (y := (fcd Tryz.f99 [1])) ?_
  refine V_regionX Γ Δ [] [0, 1, 2, 4, 6, 10, 14] (evs ?_)
  all_goals (try with_reducible (repeat' (first | apply And.intro | intro _)))
  all_goals (try (first | with_reducible refine wa_id ?_ | exact True.intro | omega))
  refine WA_seq (x := (fcd Tryz.f99 [1, 0])) (y := (fcd Tryz.f99 [1, 1])) ?_
  refine WA_seq (x := (fcd Tryz.f99 [1, 0, 0])) (y := (fcd Tryz.f99 [1, 0, 1])) ?_
  refine V_regionX Γ Δ [] [0, 1, 2, 4, 6, 10, 14] (evs ?_)
  all_goals (try with_reducible (repeat' (first | apply And.intro | intro _)))
  all_goals (try (first | with_reducible refine wa_id ?_ | exact True.intro | omega))
  refine V_cond (evs ?_)
  refine ⟨fun hc => ?_, fun hc => ?_⟩
  · refine WA_seq (x := (fcd Tryz.f99 [1, 0, 1, 0, 0])) (y := (fcd Tryz.f99 [1, 0, 1, 0, 1])) ?_
    refine V_regionX Γ Δ [] [0, 1, 2, 4, 6, 10, 14] (evs ?_)
    all_goals (try with_reducible (repeat' (first | apply And.intro | intro _)))
    all_goals (try (first | with_reducible refine wa_id ?_ | exact True.intro | omega))
    refine V_ret (evs ?_)
    first | exact ch_0 hc | exact ch_1 hc | exact ch_2 hc | exact ch_3 ‹_› ‹_› hc
  · refine WA_skip ?_
    refine WA_seq (x := (fcd Tryz.f99 [1, 1, 0])) (y := (fcd Tryz.f99 [1, 1, 1])) ?_
    refine WA_seq (x := (fcd Tryz.f99 [1, 1, 0, 0])) (y := (fcd Tryz.f99 [1, 1, 0, 1])) ?_
    refine V_regionX Γ Δ [] [0, 1, 2, 4, 6, 10, 14] (evs ?_)
    all_goals (try with_reducible (repeat' (first | apply And.intro | intro _)))
    all_goals (try (first | with_reducible refine wa_id ?_ | exact True.intro | omega))
    refine V_cond (evs ?_)
    refine ⟨fun hc => ?_, fun hc => ?_⟩
    · refine WA_seq (x := (fcd Tryz.f99 [1, 1, 0, 1, 0, 0])) (y := (fcd Tryz.f99 [1, 1, 0, 1, 0, 1])) ?_
      refine V_regionX Γ Δ [] [0, 1, 2, 4, 6, 10, 14] (evs ?_)
      all_goals (try with_reducible (repeat' (first | apply And.intro | intro _)))
      all_goals (try (first | with_reducible refine wa_id ?_ | exact True.intro | omega))
      refine V_ret (evs ?_)
      first | exact ch_0 hc | exact ch_1 hc | exact ch_2 hc | exact ch_3 ‹_› ‹_› hc
    · refine WA_skip ?_
      refine WA_seq (x := (fcd Tryz.f99 [1, 1, 1, 0])) (y := (fcd Tryz.f99 [1, 1, 1, 1])) ?_
      refine WA_seq (x := (fcd Tryz.f99 [1, 1, 1, 0, 0])) (y := (fcd Tryz.f99 [1, 1, 1, 0, 1])) ?_
      refine V_regionX Γ Δ [] [0, 1, 2, 4, 6, 10, 14] (evs ?_)
      all_goals (try with_reducible (repeat' (first | apply And.intro | intro _)))
      all_goals (try (first | with_reducible refine wa_id ?_ | exact True.intro | omega))
      refine V_cond (evs ?_)
      refine ⟨fun hc => ?_, fun hc => ?_⟩
      · refine WA_seq (x := (fcd Tryz.f99 [1, 1, 1, 0, 1, 0, 0])) (y := (fcd Tryz.f99 [1, 1, 1, 0, 1, 0, 1])) ?_
        refine V_regionX Γ Δ [] [0, 1, 2, 4, 6, 10, 14] (evs ?_)
        all_goals (try with_reducible (repeat' (first | apply And.intro | intro _)))
        all_goals (try (first | with_reducible refine wa_id ?_ | exact True.intro | omega))
        refine V_ret (evs ?_)
        first | exact ch_0 hc | exact ch_1 hc | exact ch_2 hc | exact ch_3 ‹_› ‹_› hc
      · refine WA_skip ?_
        refine WA_seq (x := (fcd Tryz.f99 [1, 1, 1, 1, 0])) (y := (fcd Tryz.f99 [1, 1, 1, 1, 1])) ?_
        refine V_regionX Γ Δ [] [0, 1, 2, 4, 6, 10, 14] (evs ?_)
        all_goals (try with_reducible (repeat' (first | apply And.intro | intro _)))
        all_goals (try (first | with_reducible refine wa_id ?_ | exact True.intro | omega))
        refine V_ret (evs ?_)
        first | exact ch_0 hc | exact ch_1 hc | exact ch_2 hc | exact ch_3 ‹_› ‹_› hc

set_option maxHeartbeats 4000000 in
set_option maxRecDepth 100000 in
theorem rsquare_fn (i : Im) (o : Pt) (bd : Rc) (x y r : Int) (g : Bool) (hv : SqH ⟨i, o, bd, 0, [], r⟩ (wtL (bif g then 2 else 1) r) x y) (hg : g = true → r ≤ 7) : Eng.Fn Tryz.prog 48 [rvD i o bd, .i x, .i y, .i r, .b g] (.dat (rsD (sqS ⟨i, o, bd, 0, [], r⟩ (wtL (bif g then 2 else 1) r) x y))) := by
  have hr := hv.1
  have hx := hv.2.2.1
  simp only at hr
  refine Eng.Fn.by (fn := Tryz.f48) 56 [.cell 10 73] Tryz.func48 rfl Tryz.ntmps48 rfl (by simp) fun w0 G0 => ?_
  refine WA_seq (x := (fcd Tryz.f48 [0])) (y := (fcd Tryz.f48 [1])) ?_
  refine V_regionX Γ Δ [] [0, 1, 2, 3, 4, 5, 10, 11, 12, 13, 14, 20, 27, 30] (evs ?_)
  all_goals (try with_reducible (repeat' (first | apply And.intro | intro _)))
  all_goals (try (first | with_reducible refine wa_id ?_ | exact True.intro | omega | exact radd_fn _ _ _ so vp sw2 sw1))
  refine WA_seq (x := (fcd Tryz.f48 [1, 0])) (y := (fcd Tryz.f48 [1, 1])) ?_
  refine V_regionX Γ Δ [] [0, 1, 2, 3, 4, 5, 10, 11, 12, 13, 14, 20, 27, 30] (evs ?_)
  all_goals (try with_reducible (repeat' (first | apply And.intro | intro _)))
  all_goals (try (first | with_reducible refine wa_id ?_ | exact True.intro | omega | exact radd_fn _ _ _ so vp sw2 sw1))
  refine WA_seq (x := (fcd Tryz.f48 [1, 1, 0])) (y := (fcd Tryz.f48 [1, 1, 1])) ?_
  refine WA_seq (x := (fcd Tryz.f48 [1, 1, 0, 0])) (y := (fcd Tryz.f48 [1, 1, 0, 1])) ?_
  refine V_regionX Γ Δ [] [0, 1, 2, 3, 4, 5, 10, 11, 12, 13, 14, 20, 27, 30] (evs ?_)
  (try simp (maxSteps := 10000000) (disch := omega) only [w64])
  all_goals (try with_reducible (repeat' (first | apply And.intro | intro _)))
  all_goals (try (first | with_reducible refine wa_id ?_ | exact True.intro | omega | exact radd_fn _ _ _ so vp sw2 sw1))
  refine WA_block (c := (fcd Tryz.f48 [1, 1, 0, 1, 0])) ?_
  refine V_loop (c := (fcd Tryz.f48 [1, 1, 0, 1, 0, 0])) (α := Nat) [12, 13, 14, 20, 27, 30] [11, 13600, 13601, 13602, 13603, 14200, 14201, 14202, 14203, 15200, 15201, 15202, 15203, 15400, 15401, 15402, 15403] (fun m => [(12, .dat (.i ((m : Int) - r)))]) (fun m => [(11, some (true, .box 73 [.dat (.i (sqK ⟨i, o, bd, 0, [], r⟩ (wtL (bif g then 2 else 1) r) x y m 0).w), .dat (.i (sqK ⟨i, o, bd, 0, [], r⟩ (wtL (bif g then 2 else 1) r) x y m 0).a), .dat (.i (sqK ⟨i, o, bd, 0, [], r⟩ (wtL (bif g then 2 else 1) r) x y m 0).r), .dat (.i (sqK ⟨i, o, bd, 0, [], r⟩ (wtL (bif g then 2 else 1) r) x y m 0).g), .dat (.i (sqK ⟨i, o, bd, 0, [], r⟩ (wtL (bif g then 2 else 1) r) x y m 0).b)]))]) (fun m => m ≤ (2 * r + 1).toNat) (fun m => (2 * r + 1).toNat - m) 0 [] ?_ (evs ?_) ?_
  · exact Nat.zero_le _
  · (try with_reducible (repeat' (first | apply And.intro | intro _)))
    all_goals (first | exact True.intro | omega | (first | rfl | (simp; done)))
  · intro m hM
    refine WA_seq (x := (fcd Tryz.f48 [1, 1, 0, 1, 0, 0, 0])) (y := (fcd Tryz.f48 [1, 1, 0, 1, 0, 0, 1])) ?_
    refine WA_seq (x := (fcd Tryz.f48 [1, 1, 0, 1, 0, 0, 0, 0])) (y := (fcd Tryz.f48 [1, 1, 0, 1, 0, 0, 0, 1])) ?_
    refine V_regionX Γ Δ [] [0, 1, 2, 3, 4, 5, 10, 11, 12, 13, 14, 20, 27, 30] (evs ?_)
    all_goals (try with_reducible (repeat' (first | apply And.intro | intro _)))
    all_goals (try (first | with_reducible refine wa_id ?_ | exact True.intro | omega | exact radd_fn _ _ _ so vp sw2 sw1))
    refine V_cond (evs ?_)
    refine ⟨fun hc => ?_, fun hc => ?_⟩
    · refine WA_skip ?_
      refine WA_seq (x := (fcd Tryz.f48 [1, 1, 0, 1, 0, 0, 1, 0])) (y := (fcd Tryz.f48 [1, 1, 0, 1, 0, 0, 1, 1])) ?_
      refine WA_block (c := (fcd Tryz.f48 [1, 1, 0, 1, 0, 0, 1, 0, 0])) ?_
      refine WA_seq (x := (fcd Tryz.f48 [1, 1, 0, 1, 0, 0, 1, 0, 0, 0])) (y := (fcd Tryz.f48 [1, 1, 0, 1, 0, 0, 1, 0, 0, 1])) ?_
      refine V_regionX Γ Δ [] [0, 1, 2, 3, 4, 5, 10, 11, 12, 13, 14, 20, 27, 30] (evs ?_)
      (try simp (maxSteps := 10000000) (disch := omega) only [w64])
      all_goals (try with_reducible (repeat' (first | apply And.intro | intro _)))
      all_goals (try (first | with_reducible refine wa_id ?_ | exact True.intro | omega | exact radd_fn _ _ _ so vp sw2 sw1))
      refine WA_block (c := (fcd Tryz.f48 [1, 1, 0, 1, 0, 0, 1, 0, 0, 1, 0])) ?_
      refine V_loop (c := (fcd Tryz.f48 [1, 1, 0, 1, 0, 0, 1, 0, 0, 1, 0, 0])) (α := Nat) [13, 14, 27, 30] [11, 13600, 13601, 13602, 13603, 14200, 14201, 14202, 14203, 15200, 15201, 15202, 15203, 15400, 15401, 15402, 15403] (fun k => [(13, .dat (.i ((k : Int) - r)))]) (fun k => [(11, some (true, .box 73 [.dat (.i (sqK ⟨i, o, bd, 0, [], r⟩ (wtL (bif g then 2 else 1) r) x y m k).w), .dat (.i (sqK ⟨i, o, bd, 0, [], r⟩ (wtL (bif g then 2 else 1) r) x y m k).a), .dat (.i (sqK ⟨i, o, bd, 0, [], r⟩ (wtL (bif g then 2 else 1) r) x y m k).r), .dat (.i (sqK ⟨i, o, bd, 0, [], r⟩ (wtL (bif g then 2 else 1) r) x y m k).g), .dat (.i (sqK ⟨i, o, bd, 0, [], r⟩ (wtL (bif g then 2 else 1) r) x y m k).b)]))]) (fun k => k ≤ (2 * r + 1).toNat) (fun k => (2 * r + 1).toNat - k) 0 [] ?_ (evs ?_) ?_
      · exact Nat.zero_le _
      · (try with_reducible (repeat' (first | apply And.intro | intro _)))
        all_goals (first | exact True.intro | omega | (first | rfl | (simp; done)))
      · intro k hK
        refine WA_seq (x := (fcd Tryz.f48 [1, 1, 0, 1, 0, 0, 1, 0, 0, 1, 0, 0, 0])) (y := (fcd Tryz.f48 [1, 1, 0, 1, 0, 0, 1, 0, 0, 1, 0, 0, 1])) ?_
        refine WA_seq (x := (fcd Tryz.f48 [1, 1, 0, 1, 0, 0, 1, 0, 0, 1, 0, 0, 0, 0])) (y := (fcd Tryz.f48 [1, 1, 0, 1, 0, 0, 1, 0, 0, 1, 0, 0, 0, 1])) ?_
        refine V_regionX Γ Δ [] [0, 1, 2, 3, 4, 5, 10, 11, 12, 13, 14, 20, 27, 30] (evs ?_)
        all_goals (try with_reducible (repeat' (first | apply And.intro | intro _)))
        all_goals (try (first | with_reducible refine wa_id ?_ | exact True.intro | omega | exact radd_fn _ _ _ so vp sw2 sw1))
        refine V_cond (evs ?_)
        refine ⟨fun hc => ?_, fun hc => ?_⟩
        · refine WA_skip ?_
          refine WA_seq (x := (fcd Tryz.f48 [1, 1, 0, 1, 0, 0, 1, 0, 0, 1, 0, 0, 1, 0])) (y := (fcd Tryz.f48 [1, 1, 0, 1, 0, 0, 1, 0, 0, 1, 0, 0, 1, 1])) ?_
          refine WA_block (c := (fcd Tryz.f48 [1, 1, 0, 1, 0, 0, 1, 0, 0, 1, 0, 0, 1, 0, 0])) ?_
          refine WA_seq (x := (fcd Tryz.f48 [1, 1, 0, 1, 0, 0, 1, 0, 0, 1, 0, 0, 1, 0, 0, 0])) (y := (fcd Tryz.f48 [1, 1, 0, 1, 0, 0, 1, 0, 0, 1, 0, 0, 1, 0, 0, 1])) ?_
          refine V_regionX Γ Δ [] [0, 1, 2, 3, 4, 5, 10, 11, 12, 13, 14, 20, 27, 30] (evs ?_)
          all_goals (try with_reducible (repeat' (first | apply And.intro | intro _)))
          all_goals (try (first | with_reducible refine wa_id ?_ | exact True.intro | omega | exact radd_fn _ _ _ so vp sw2 sw1))
          refine V_cut (x := (fcd Tryz.f48 [1, 1, 0, 1, 0, 0, 1, 0, 0, 1, 0, 0, 1, 0, 0, 1, 0])) (y := (fcd Tryz.f48 [1, 1, 0, 1, 0, 0, 1, 0, 0, 1, 0, 0, 1, 0, 0, 1, 1])) (α := Unit) [14, 30] [13600, 13601, 13602, 13603, 14200, 14201, 14202, 14203] (fun _ => [(14, .dat (.i ((wtL (bif g then 2 else 1) r).getD k 0 * (wtL (bif g then 2 else 1) r).getD m 0)))]) (fun _ => []) (fun _ => True) ?_ ?_
          · refine WA_seq (x := (fcd Tryz.f48 [1, 1, 0, 1, 0, 0, 1, 0, 0, 1, 0, 0, 1, 0, 0, 1, 0, 0])) (y := (fcd Tryz.f48 [1, 1, 0, 1, 0, 0, 1, 0, 0, 1, 0, 0, 1, 0, 0, 1, 0, 1])) ?_
            refine V_regionX Γ Δ [] [0, 1, 2, 3, 4, 5, 10, 11, 12, 13, 14, 20, 27, 30] (evs ?_)
            all_goals (try with_reducible (repeat' (first | apply And.intro | intro _)))
            all_goals (try (first | with_reducible refine wa_id ?_ | exact True.intro | omega | exact radd_fn _ _ _ so vp sw2 sw1))
            refine V_cond (evs ?_)
            refine ⟨fun hc => ?_, fun hc => ?_⟩
            · refine V_regionX Γ Δ [] [0, 1, 2, 3, 4, 5, 10, 11, 12, 13, 14, 20, 27, 30] (evs ?_)
              have hg7 := hg hc
              (try simp (maxSteps := 10000000) (disch := omega) only [w64])
              (try simp only [bin_w (show (2 * r).toNat ≤ 14 from by omega)])
              all_goals (try with_reducible (repeat' (first | apply And.intro | intro _)))
              all_goals (try (first | with_reducible refine wa_id ?_ | exact True.intro | exact rbin_fn _ _ (by omega) (by omega) (by omega) | omega | exact radd_fn _ _ _ so vp sw2 sw1))
              refine V_jn [] () (evs ?_) ?_
              all_goals (try with_reducible (repeat' (first | apply And.intro | intro _)))
              all_goals (first | exact True.intro | omega | (first | exact sqw_2 hc (by omega) (by omega) | exact sqw_1 hc (by omega) (by omega)))
            · refine WA_skip ?_
              refine V_jn [] () (evs ?_) ?_
              all_goals (try with_reducible (repeat' (first | apply And.intro | intro _)))
              all_goals (first | exact True.intro | omega | (first | exact sqw_2 hc (by omega) (by omega) | exact sqw_1 hc (by omega) (by omega)))
          · intro _ _
            have hkk : k < (2 * r + 1).toNat ∧ m < (2 * r + 1).toNat := by omega
            refine V_draw Γ [] [0, 1, 2, 3, 4, 5, 10, 11, 12, 13, 14, 20, 27, 30] mixed (by kernel_rfl) (evs ?_)
            (try simp (maxSteps := 10000000) (disch := omega) only [w64])
            have hm : m < (2 * r + 1).toNat := by omega
            have hk : k < (2 * r + 1).toNat := by omega
            have vi : VIn ⟨i, o, bd, 0, [], 0⟩ (x + ((k : Int) - r)) (y + ((m : Int) - r)) := sq_vin hv hm hk
            have vp := pix_ok vi
            have so := sq_all hv hm (k := k) (by omega)
            have sw := sq_w hv hm hk
            have sw1 := sw.1
            have sw2 := sw.2
            all_goals (try with_reducible (repeat' (first | apply And.intro | intro _)))
            all_goals (try (first | with_reducible refine wa_id ?_ | exact True.intro | exact rpixel_fn ⟨_, _, _⟩ ⟨_, _⟩ ⟨_, _, _, _⟩ _ _ (by assumption) | exact radd_fn ⟨_, _, _, _, _⟩ ⟨_, _, _, _⟩ _ (by assumption) (by assumption) (by first | assumption | omega) (by first | assumption | omega) | omega | exact radd_fn _ _ _ so vp sw2 sw1))
            refine V_regionX Γ Δ [] [0, 1, 2, 3, 4, 5, 10, 11, 12, 13, 14, 20, 27, 30] (evs ?_)
            (try simp (maxSteps := 10000000) (disch := omega) only [w64])
            all_goals (try with_reducible (repeat' (first | apply And.intro | intro _)))
            all_goals (try (first | with_reducible refine wa_id ?_ | exact True.intro | omega | exact radd_fn _ _ _ so vp sw2 sw1))
            refine V_next [] (k + 1) (evs ?_) ?_ ?_
            all_goals (try with_reducible (repeat' (first | apply And.intro | intro _)))
            all_goals (first | exact True.intro | omega | (first | (push_cast; omega) | (rw [sqK_succ]; rfl)))
        · refine V_exit (evs ?_)
          refine V_regionX Γ Δ [] [0, 1, 2, 3, 4, 5, 10, 11, 12, 13, 14, 20, 27, 30] (evs ?_)
          (try simp (maxSteps := 10000000) (disch := omega) only [w64])
          all_goals (try with_reducible (repeat' (first | apply And.intro | intro _)))
          all_goals (try (first | with_reducible refine wa_id ?_ | exact True.intro | omega | exact radd_fn _ _ _ so vp sw2 sw1))
          refine V_next [] (m + 1) (evs ?_) ?_ ?_
          all_goals (try with_reducible (repeat' (first | apply And.intro | intro _)))
          all_goals (first | exact True.intro | omega | (first | (push_cast; omega) | (rw [← sqK_over ⟨i, o, bd, 0, [], r⟩ (wtL (bif g then 2 else 1) r) x y m k (by simp only; omega)])))
    · refine V_exit (evs ?_)
      refine WA_seq (x := (fcd Tryz.f48 [1, 1, 1, 0])) (y := (fcd Tryz.f48 [1, 1, 1, 1])) ?_
      refine V_regionX Γ Δ [] [0, 1, 2, 3, 4, 5, 10, 11, 12, 13, 14, 20, 27, 30] (evs ?_)
      all_goals (try with_reducible (repeat' (first | apply And.intro | intro _)))
      all_goals (try (first | with_reducible refine wa_id ?_ | exact True.intro | omega | exact radd_fn _ _ _ so vp sw2 sw1))
      refine V_ret (evs ?_)
      first | rfl | (have em : m = (2 * r + 1).toNat := by omega); subst em; first | rfl | exact ⟨rfl, rfl, rfl, rfl, rfl⟩

end Go.S16

set_option linter.unusedSimpArgs false
set_option linter.unusedVariables false
namespace Go.S16
open Go.RowKit Go.Proofs Go.Eng Go.Rect
set_option maxHeartbeats 8000000 in
set_option maxRecDepth 100000 in
theorem rranked_fn (i : Im) (o : Pt) (bd : Rc) (x y r : Int) (c : Nat) (pl : Int) (hv : WnH ⟨i, o, bd, 0, [], r⟩ x y) (hpl : 0 ≤ pl ∧ pl < (winS ⟨i, o, bd, 0, [], r⟩ x y c).length) : Eng.Fn Tryz.prog 84 [rvD i o bd, .i x, .i y, .i r, .i (c : Int), .i pl] (.dat (.i ((sortL (winS ⟨i, o, bd, 0, [], r⟩ x y c)).getD pl.toNat 0))) := by
  have hr := hv.1
  have hx := hv.2.1
  simp only at hr
  refine Eng.Fn.by (fn := Tryz.f84) 89 [.tmp 12] Tryz.func84 rfl Tryz.ntmps84 rfl (by simp) fun w0 G0 => ?_
  refine WA_seq (x := (fcd Tryz.f84 [0])) (y := (fcd Tryz.f84 [1])) ?_
  refine V_regionX Γ Δ [] [0, 1, 2, 3, 4, 5, 6, 12, 13, 14, 15, 16, 17, 23, 30, 49, 66] (evs ?_)
  all_goals (try with_reducible (repeat' (first | apply And.intro | intro _)))
  all_goals (try (first | with_reducible refine wa_id ?_ | exact True.intro | omega | exact rvalue_fn _ c))
  refine WA_seq (x := (fcd Tryz.f84 [1, 0])) (y := (fcd Tryz.f84 [1, 1])) ?_
  refine V_regionX Γ Δ [] [0, 1, 2, 3, 4, 5, 6, 12, 13, 14, 15, 16, 17, 23, 30, 49, 66] (evs ?_)
  all_goals (try with_reducible (repeat' (first | apply And.intro | intro _)))
  all_goals (try (first | with_reducible refine wa_id ?_ | exact True.intro | omega | exact rvalue_fn _ c))
  refine WA_seq (x := (fcd Tryz.f84 [1, 1, 0])) (y := (fcd Tryz.f84 [1, 1, 1])) ?_
  refine WA_seq (x := (fcd Tryz.f84 [1, 1, 0, 0])) (y := (fcd Tryz.f84 [1, 1, 0, 1])) ?_
  refine V_regionX Γ Δ [] [0, 1, 2, 3, 4, 5, 6, 12, 13, 14, 15, 16, 17, 23, 30, 49, 66] (evs ?_)
  (try simp (maxSteps := 10000000) (disch := omega) only [w64])
  all_goals (try with_reducible (repeat' (first | apply And.intro | intro _)))
  all_goals (try (first | with_reducible refine wa_id ?_ | exact True.intro | omega | exact rvalue_fn _ c))
  refine WA_block (c := (fcd Tryz.f84 [1, 1, 0, 1, 0])) ?_
  refine V_loop (c := (fcd Tryz.f84 [1, 1, 0, 1, 0, 0])) (α := Nat) [13, 14, 15, 23, 30] [18, 44, 45, 14100, 14101, 14102, 14103, 14300, 14301, 14302, 14303] (fun m => [(14, .dat (.i ((m : Int) - r))), (13, .vw 20000 0 (winK ⟨i, o, bd, 0, [], r⟩ x y c m 0).length 1)]) (fun m => [(20000, some (true, .arr 3 1 (((winK ⟨i, o, bd, 0, [], r⟩ x y c m 0)).map iC)))]) (fun m => m ≤ (2 * r + 1).toNat) (fun m => (2 * r + 1).toNat - m) 0 [(20000, some 18)] ?_ (evs ?_) ?_
  · exact Nat.zero_le _
  · (try with_reducible (repeat' (first | apply And.intro | intro _)))
    all_goals (first | exact True.intro | omega | (first | rfl | (simp; done)))
  · intro m hM
    refine WA_seq (x := (fcd Tryz.f84 [1, 1, 0, 1, 0, 0, 0])) (y := (fcd Tryz.f84 [1, 1, 0, 1, 0, 0, 1])) ?_
    refine WA_seq (x := (fcd Tryz.f84 [1, 1, 0, 1, 0, 0, 0, 0])) (y := (fcd Tryz.f84 [1, 1, 0, 1, 0, 0, 0, 1])) ?_
    refine V_regionX Γ Δ [] [0, 1, 2, 3, 4, 5, 6, 12, 13, 14, 15, 16, 17, 23, 30, 49, 66] (evs ?_)
    all_goals (try with_reducible (repeat' (first | apply And.intro | intro _)))
    all_goals (try (first | with_reducible refine wa_id ?_ | exact True.intro | omega | exact rvalue_fn _ c))
    refine V_cond (evs ?_)
    refine ⟨fun hc => ?_, fun hc => ?_⟩
    · refine WA_skip ?_
      refine WA_seq (x := (fcd Tryz.f84 [1, 1, 0, 1, 0, 0, 1, 0])) (y := (fcd Tryz.f84 [1, 1, 0, 1, 0, 0, 1, 1])) ?_
      refine WA_block (c := (fcd Tryz.f84 [1, 1, 0, 1, 0, 0, 1, 0, 0])) ?_
      refine WA_seq (x := (fcd Tryz.f84 [1, 1, 0, 1, 0, 0, 1, 0, 0, 0])) (y := (fcd Tryz.f84 [1, 1, 0, 1, 0, 0, 1, 0, 0, 1])) ?_
      refine V_regionX Γ Δ [] [0, 1, 2, 3, 4, 5, 6, 12, 13, 14, 15, 16, 17, 23, 30, 49, 66] (evs ?_)
      (try simp (maxSteps := 10000000) (disch := omega) only [w64])
      all_goals (try with_reducible (repeat' (first | apply And.intro | intro _)))
      all_goals (try (first | with_reducible refine wa_id ?_ | exact True.intro | omega | exact rvalue_fn _ c))
      refine WA_block (c := (fcd Tryz.f84 [1, 1, 0, 1, 0, 0, 1, 0, 0, 1, 0])) ?_
      refine V_loop (c := (fcd Tryz.f84 [1, 1, 0, 1, 0, 0, 1, 0, 0, 1, 0, 0])) (α := Nat) [13, 15, 30] [44, 45, 14100, 14101, 14102, 14103, 14300, 14301, 14302, 14303, 20000] (fun k => [(15, .dat (.i ((k : Int) - r))), (13, .vw 20001 0 (winK ⟨i, o, bd, 0, [], r⟩ x y c m k).length 1)]) (fun k => [(20001, some (true, .arr 3 1 (((winK ⟨i, o, bd, 0, [], r⟩ x y c m k)).map iC)))]) (fun k => k ≤ (2 * r + 1).toNat) (fun k => (2 * r + 1).toNat - k) 0 [(20001, some 20000)] ?_ (evs ?_) ?_
      · exact Nat.zero_le _
      · (try with_reducible (repeat' (first | apply And.intro | intro _)))
        all_goals (first | exact True.intro | omega | (first | rfl | (simp; done)))
      · intro k hK
        refine WA_seq (x := (fcd Tryz.f84 [1, 1, 0, 1, 0, 0, 1, 0, 0, 1, 0, 0, 0])) (y := (fcd Tryz.f84 [1, 1, 0, 1, 0, 0, 1, 0, 0, 1, 0, 0, 1])) ?_
        refine WA_seq (x := (fcd Tryz.f84 [1, 1, 0, 1, 0, 0, 1, 0, 0, 1, 0, 0, 0, 0])) (y := (fcd Tryz.f84 [1, 1, 0, 1, 0, 0, 1, 0, 0, 1, 0, 0, 0, 1])) ?_
        refine V_regionX Γ Δ [] [0, 1, 2, 3, 4, 5, 6, 12, 13, 14, 15, 16, 17, 23, 30, 49, 66] (evs ?_)
        all_goals (try with_reducible (repeat' (first | apply And.intro | intro _)))
        all_goals (try (first | with_reducible refine wa_id ?_ | exact True.intro | omega | exact rvalue_fn _ c))
        refine V_cond (evs ?_)
        refine ⟨fun hc => ?_, fun hc => ?_⟩
        · refine WA_skip ?_
          refine WA_seq (x := (fcd Tryz.f84 [1, 1, 0, 1, 0, 0, 1, 0, 0, 1, 0, 0, 1, 0])) (y := (fcd Tryz.f84 [1, 1, 0, 1, 0, 0, 1, 0, 0, 1, 0, 0, 1, 1])) ?_
          refine WA_block (c := (fcd Tryz.f84 [1, 1, 0, 1, 0, 0, 1, 0, 0, 1, 0, 0, 1, 0, 0])) ?_
          refine V_regionX Γ Δ [] [0, 1, 2, 3, 4, 5, 6, 12, 13, 14, 15, 16, 17, 23, 30, 49, 66] (evs ?_)
          (try simp (maxSteps := 10000000) (disch := omega) only [w64])
          have hm : m < (2 * r + 1).toNat := by omega
          have hk : k < (2 * r + 1).toNat := by omega
          have vi : VIn ⟨i, o, bd, 0, [], 0⟩ (x + ((k : Int) - r)) (y + ((m : Int) - r)) := wn_vin hv hm hk
          have hbw := wn_bd hv (c := c) (m := m) (k := k) (by simp only; omega) (by simp only; omega)
          (try simp only [Int.toNat_natCast])
          all_goals (try with_reducible (repeat' (first | apply And.intro | intro _)))
          all_goals (try (first | with_reducible refine wa_id ?_ | exact True.intro | exact rpixel_fn ⟨_, _, _⟩ ⟨_, _⟩ ⟨_, _, _, _⟩ _ _ (by assumption) | exact rvalue_fn ⟨_, _, _, _⟩ _ | omega | exact rvalue_fn _ c))
          refine V_regionX Γ Δ [] [0, 1, 2, 3, 4, 5, 6, 12, 13, 14, 15, 16, 17, 23, 30, 49, 66] (evs ?_)
          (try simp (maxSteps := 10000000) (disch := omega) only [w64])
          all_goals (try with_reducible (repeat' (first | apply And.intro | intro _)))
          all_goals (try (first | with_reducible refine wa_id ?_ | exact True.intro | omega | exact rvalue_fn _ c))
          refine V_next [(20001, some 45)] (k + 1) (evs ?_) ?_ ?_
          all_goals (try with_reducible (repeat' (first | apply And.intro | intro _)))
          all_goals (first | exact True.intro | omega | (first | (push_cast; omega) | (rw [winK_succ]; simp; done) | (rw [winK_succ, List.map_append]; rfl)))
        · refine V_exit (evs ?_)
          refine V_regionX Γ Δ [] [0, 1, 2, 3, 4, 5, 6, 12, 13, 14, 15, 16, 17, 23, 30, 49, 66] (evs ?_)
          (try simp (maxSteps := 10000000) (disch := omega) only [w64])
          all_goals (try with_reducible (repeat' (first | apply And.intro | intro _)))
          all_goals (try (first | with_reducible refine wa_id ?_ | exact True.intro | omega | exact rvalue_fn _ c))
          refine V_next [(20000, some 20001)] (m + 1) (evs ?_) ?_ ?_
          all_goals (try with_reducible (repeat' (first | apply And.intro | intro _)))
          all_goals (first | exact True.intro | omega | (first | (push_cast; omega) | (rw [← winK_over ⟨i, o, bd, 0, [], r⟩ x y _ m k (by simp only; omega)]; done)))
    · refine V_exit (evs ?_)
      refine WA_seq (x := (fcd Tryz.f84 [1, 1, 1, 0])) (y := (fcd Tryz.f84 [1, 1, 1, 1])) ?_
      refine WA_seq (x := (fcd Tryz.f84 [1, 1, 1, 0, 0])) (y := (fcd Tryz.f84 [1, 1, 1, 0, 1])) ?_
      refine V_regionX Γ Δ [] [0, 1, 2, 3, 4, 5, 6, 12, 13, 14, 15, 16, 17, 23, 30, 49, 66] (evs ?_)
      have em : m = (2 * r + 1).toNat := by omega
      subst em
      have wsb := wns_bd hv c
      all_goals (try with_reducible (repeat' (first | apply And.intro | intro _)))
      all_goals (try (first | with_reducible refine wa_id ?_ | exact True.intro | omega | exact rvalue_fn _ c))
      refine WA_block (c := (fcd Tryz.f84 [1, 1, 1, 0, 1, 0])) ?_
      refine V_loop (c := (fcd Tryz.f84 [1, 1, 1, 0, 1, 0, 0])) (α := Nat × List Int) [13, 16, 17, 49, 66] [20000] (fun p => [(16, .dat (.i (p.1 : Int))), (13, .vw 20002 0 p.2.length 1)]) (fun p => [(20002, some (true, .arr 3 1 ((p.2).map iC)))]) (fun p => 1 ≤ p.1 ∧ p.2.Perm (winS ⟨i, o, bd, 0, [], r⟩ x y c) ∧ srtT p.2 p.1) (fun p => (winS ⟨i, o, bd, 0, [], r⟩ x y c).length - p.1) (1, winS ⟨i, o, bd, 0, [], r⟩ x y c) [(20002, some 20000)] ?_ (evs ?_) ?_
      · exact ⟨Nat.le_refl _, List.Perm.refl _, srt_0 _⟩
      · (try with_reducible (repeat' (first | apply And.intro | intro _)))
        all_goals (first | exact True.intro | omega | (first | rfl))
      · rintro ⟨a, la⟩ hA
        simp only at hA
        refine WA_seq (x := (fcd Tryz.f84 [1, 1, 1, 0, 1, 0, 0, 0])) (y := (fcd Tryz.f84 [1, 1, 1, 0, 1, 0, 0, 1])) ?_
        refine WA_seq (x := (fcd Tryz.f84 [1, 1, 1, 0, 1, 0, 0, 0, 0])) (y := (fcd Tryz.f84 [1, 1, 1, 0, 1, 0, 0, 0, 1])) ?_
        refine V_regionX Γ Δ [] [0, 1, 2, 3, 4, 5, 6, 12, 13, 14, 15, 16, 17, 23, 30, 49, 66] (evs ?_)
        all_goals (try with_reducible (repeat' (first | apply And.intro | intro _)))
        all_goals (try (first | with_reducible refine wa_id ?_ | exact True.intro | omega | exact rvalue_fn _ c))
        refine V_cond (evs ?_)
        refine ⟨fun hc => ?_, fun hc => ?_⟩
        · refine WA_skip ?_
          refine WA_seq (x := (fcd Tryz.f84 [1, 1, 1, 0, 1, 0, 0, 1, 0])) (y := (fcd Tryz.f84 [1, 1, 1, 0, 1, 0, 0, 1, 1])) ?_
          refine WA_block (c := (fcd Tryz.f84 [1, 1, 1, 0, 1, 0, 0, 1, 0, 0])) ?_
          refine WA_seq (x := (fcd Tryz.f84 [1, 1, 1, 0, 1, 0, 0, 1, 0, 0, 0])) (y := (fcd Tryz.f84 [1, 1, 1, 0, 1, 0, 0, 1, 0, 0, 1])) ?_
          refine V_regionX Γ Δ [] [0, 1, 2, 3, 4, 5, 6, 12, 13, 14, 15, 16, 17, 23, 30, 49, 66] (evs ?_)
          have hal := hA.2.1.length_eq
          have hlt := hc
          all_goals (try with_reducible (repeat' (first | apply And.intro | intro _)))
          all_goals (try (first | with_reducible refine wa_id ?_ | exact True.intro | omega | exact rvalue_fn _ c))
          refine WA_block (c := (fcd Tryz.f84 [1, 1, 1, 0, 1, 0, 0, 1, 0, 0, 1, 0])) ?_
          refine V_loop (c := (fcd Tryz.f84 [1, 1, 1, 0, 1, 0, 0, 1, 0, 0, 1, 0, 0])) (α := Nat × List Int) [13, 17, 66] [20002] (fun p => [(17, .dat (.i (p.1 : Int))), (13, .vw 20003 0 p.2.length 1)]) (fun p => [(20003, some (true, .arr 3 1 ((p.2).map iC)))]) (fun p => p.1 ≤ a ∧ p.2.Perm (winS ⟨i, o, bd, 0, [], r⟩ x y c) ∧ srtI p.2 a p.1) (fun p => p.1) (a, la) [(20003, some 20002)] ?_ (evs ?_) ?_
          · exact ⟨Nat.le_refl _, hA.2.1, srt_in hA.2.2⟩
          · (try with_reducible (repeat' (first | apply And.intro | intro _)))
            all_goals (first | exact True.intro | omega | (first | rfl))
          · rintro ⟨b, lb⟩ hB
            simp only at hB
            refine WA_seq (x := (fcd Tryz.f84 [1, 1, 1, 0, 1, 0, 0, 1, 0, 0, 1, 0, 0, 0])) (y := (fcd Tryz.f84 [1, 1, 1, 0, 1, 0, 0, 1, 0, 0, 1, 0, 0, 1])) ?_
            refine WA_seq (x := (fcd Tryz.f84 [1, 1, 1, 0, 1, 0, 0, 1, 0, 0, 1, 0, 0, 0, 0])) (y := (fcd Tryz.f84 [1, 1, 1, 0, 1, 0, 0, 1, 0, 0, 1, 0, 0, 0, 1])) ?_
            refine V_draw Γ [] [0, 1, 2, 3, 4, 5, 6, 12, 13, 14, 15, 16, 17, 23, 30, 49, 66] mixed (by kernel_rfl) (evs ?_)
            (try simp (maxSteps := 10000000) (disch := omega) only [w64])
            have hbl := hB.2.1.length_eq
            all_goals (try with_reducible (repeat' (first | apply And.intro | intro _)))
            all_goals (try (first | with_reducible refine wa_id ?_ | exact True.intro | omega | exact rvalue_fn _ c))
            refine V_cond (evs ?_)
            refine ⟨fun hc => ?_, fun hc => ?_⟩
            · refine WA_skip ?_
              refine WA_seq (x := (fcd Tryz.f84 [1, 1, 1, 0, 1, 0, 0, 1, 0, 0, 1, 0, 0, 1, 0])) (y := (fcd Tryz.f84 [1, 1, 1, 0, 1, 0, 0, 1, 0, 0, 1, 0, 0, 1, 1])) ?_
              refine WA_block (c := (fcd Tryz.f84 [1, 1, 1, 0, 1, 0, 0, 1, 0, 0, 1, 0, 0, 1, 0, 0])) ?_
              refine V_draw Γ [] [0, 1, 2, 3, 4, 5, 6, 12, 13, 14, 15, 16, 17, 23, 30, 49, 66] mixed (by kernel_rfl) (evs ?_)
              (try simp (maxSteps := 10000000) (disch := omega) only [w64])
              all_goals (try with_reducible (repeat' (first | apply And.intro | intro _)))
              all_goals (try (first | with_reducible refine wa_id ?_ | exact True.intro | omega | exact rvalue_fn _ c))
              refine V_regionX Γ Δ [] [0, 1, 2, 3, 4, 5, 6, 12, 13, 14, 15, 16, 17, 23, 30, 49, 66] (evs ?_)
              (try simp (maxSteps := 10000000) (disch := omega) only [w64])
              all_goals (try with_reducible (repeat' (first | apply And.intro | intro _)))
              all_goals (try (first | with_reducible refine wa_id ?_ | exact True.intro | omega | exact rvalue_fn _ c))
              refine V_next [] (b - 1, swpL lb b) (evs ?_) ?_ ?_
              all_goals (try with_reducible (repeat' (first | apply And.intro | intro _)))
              all_goals (first | exact True.intro | omega | (first | rfl | exact (swp_len _ _).symm | exact swp_i hc.1 | (simp only; omega) | exact (swp_perm (by omega) (by omega)).trans hB.2.1 | exact swp_I hB.2.2 (by omega) (by omega) hB.1 (by have h9 := hc.2; rwa [show ((b : Int) - 1).toNat = b - 1 from by omega] at h9)))
            · refine V_exit (evs ?_)
              refine V_regionX Γ Δ [] [0, 1, 2, 3, 4, 5, 6, 12, 13, 14, 15, 16, 17, 23, 30, 49, 66] (evs ?_)
              (try simp (maxSteps := 10000000) (disch := omega) only [w64])
              all_goals (try with_reducible (repeat' (first | apply And.intro | intro _)))
              all_goals (try (first | with_reducible refine wa_id ?_ | exact True.intro | omega | exact rvalue_fn _ c))
              refine V_next [(20002, some 20003)] (a + 1, lb) (evs ?_) ?_ ?_
              all_goals (try with_reducible (repeat' (first | apply And.intro | intro _)))
              all_goals (first | exact True.intro | omega | (first | exact w64l (n := 1200) (by omega) (by omega) | rfl | exact hB.2.1 | exact srt_out hB.2.2 (srt_c hc)))
        · refine V_exit (evs ?_)
          refine WA_seq (x := (fcd Tryz.f84 [1, 1, 1, 1, 0])) (y := (fcd Tryz.f84 [1, 1, 1, 1, 1])) ?_
          refine V_regionX Γ Δ [] [0, 1, 2, 3, 4, 5, 6, 12, 13, 14, 15, 16, 17, 23, 30, 49, 66] (evs ?_)
          have hal := hA.2.1.length_eq
          have es := sort_u hA.2.1 (srt_end hA.2.2 (by omega))
          have hlb := wns_bd hv c
          all_goals (try with_reducible (repeat' (first | apply And.intro | intro _)))
          all_goals (try (first | with_reducible refine wa_id ?_ | exact True.intro | omega | exact rvalue_fn _ c))
          refine V_ret (evs ?_)
          first | (rw [← es]; done)

set_option maxHeartbeats 2000000 in
theorem rrank_fn (i : Im) (o : Pt) (bd : Rc) (x y r pl : Int) (hv : WnH ⟨i, o, bd, 0, [], r⟩ x y) (hpl : 0 ≤ pl ∧ pl < (2 * r + 1) * (2 * r + 1)) : Eng.Fn Tryz.prog 51 [rvD i o bd, .i x, .i y, .i r, .i pl] (.dat (pxD (rnkP ⟨i, o, bd, 0, [], r⟩ x y pl))) := by
  have hl := rk_len hv hpl
  refine Eng.Fn.by (fn := Tryz.f51) 36 [.cell 10 49] Tryz.func51 rfl Tryz.ntmps51 rfl (by simp) fun w0 G0 => ?_
  refine WA_seq (x := (fcd Tryz.f51 [0])) (y := (fcd Tryz.f51 [1])) ?_
  refine V_regionX Γ Δ [] [0, 1, 2, 3, 4, 5, 10] (evs ?_)
  all_goals (try with_reducible (repeat' (first | apply And.intro | intro _)))
  all_goals (try (first | with_reducible refine wa_id ?_ | exact True.intro | omega | exact rranked_fn _ _ _ _ _ _ 0 _ hv (hl 0) | exact rranked_fn _ _ _ _ _ _ 1 _ hv (hl 1) | exact rranked_fn _ _ _ _ _ _ 2 _ hv (hl 2) | exact rranked_fn _ _ _ _ _ _ 3 _ hv (hl 3)))
  refine WA_seq (x := (fcd Tryz.f51 [1, 0])) (y := (fcd Tryz.f51 [1, 1])) ?_
  refine V_draw Γ [] [0, 1, 2, 3, 4, 5, 10] mixed (by kernel_rfl) (evs ?_)
  all_goals (try with_reducible (repeat' (first | apply And.intro | intro _)))
  all_goals (try (first | with_reducible refine wa_id ?_ | exact True.intro | exact rranked_fn ⟨_, _, _⟩ ⟨_, _⟩ ⟨_, _, _, _⟩ _ _ _ _ _ (by assumption) (by assumption) | omega | exact rranked_fn _ _ _ _ _ _ 0 _ hv (hl 0) | exact rranked_fn _ _ _ _ _ _ 1 _ hv (hl 1) | exact rranked_fn _ _ _ _ _ _ 2 _ hv (hl 2) | exact rranked_fn _ _ _ _ _ _ 3 _ hv (hl 3)))
  refine V_ret (evs ?_)
  first | rfl | exact ⟨rfl, rfl, rfl, rfl⟩

end Go.S16

