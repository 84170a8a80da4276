import Derived.Test.YtppghgoeibelkaaB11
import Derived.Test.YtppghgoeibelkaaB3
import Derived.Test.YtppghgoeibelkaaA2
set_option linter.unusedSimpArgs false
set_option linter.unusedVariables false
namespace Go.S23
open Go.RowKit Go.Proofs Go.Eng Go.Rect
set_option maxHeartbeats 8000000 in
set_option maxRecDepth 100000 in
/-- imageeditor/imageeditorref23.Feather -/
theorem rfea_fn (m : Mk) (r : Int) : Eng.Fn Try.prog 25 [mkD m, .i r] (.tup [.agg [.dat (.i (feaR m r).w), .dat (.i (feaR m r).h), .own 3 1 ((feaR m r).v.map iC)], .dat (.i (feaE m r))]) := by
  refine Eng.Fn.by (fn := Try.f25) 114 [.cell 4 24, .tmp 5] Try.func25 rfl Try.ntmps25 rfl (by simp) fun w0 => ?_
  refine WA_seq (x := (fcd Try.f25 [0])) (y := (fcd Try.f25 [1])) ?_
  refine V_regionX Γ Δ [31, 110] [0, 1, 2, 4, 5, 6, 7, 8, 9, 10, 11, 12, 13, 14, 15, 19, 27, 35, 48, 54, 61, 68] (evs ?_)
  all_goals (try with_reducible (repeat' (first | apply And.intro | intro _)))
  all_goals (try (first | with_reducible refine wa_id ?_ | exact True.intro | omega | (rw [tab_len]; omega)))
  refine WA_seq (x := (fcd Try.f25 [1, 0])) (y := (fcd Try.f25 [1, 1])) ?_
  refine WA_seq (x := (fcd Try.f25 [1, 0, 0])) (y := (fcd Try.f25 [1, 0, 1])) ?_
  refine V_regionX Γ Δ [31, 110] [0, 1, 2, 4, 5, 6, 7, 8, 9, 10, 11, 12, 13, 14, 15, 19, 27, 35, 48, 54, 61, 68] (evs ?_)
  all_goals (try with_reducible (repeat' (first | apply And.intro | intro _)))
  all_goals (try (first | with_reducible refine wa_id ?_ | exact True.intro | exact rmcheck_fn ⟨_, _, _⟩ | omega | (rw [tab_len]; omega)))
  refine WA_seq (x := (fcd Try.f25 [1, 0, 1, 0])) (y := (fcd Try.f25 [1, 0, 1, 1])) ?_
  refine V_regionX Γ Δ [31, 110] [0, 1, 2, 4, 5, 6, 7, 8, 9, 10, 11, 12, 13, 14, 15, 19, 27, 35, 48, 54, 61, 68] (evs ?_)
  all_goals (try with_reducible (repeat' (first | apply And.intro | intro _)))
  all_goals (try (first | with_reducible refine wa_id ?_ | exact True.intro | omega | (rw [tab_len]; omega)))
  refine V_cond (evs ?_)
  refine ⟨fun hc => ?_, fun hc => ?_⟩
  · refine WA_seq (x := (fcd Try.f25 [1, 0, 1, 1, 0, 0])) (y := (fcd Try.f25 [1, 0, 1, 1, 0, 1])) ?_
    refine V_regionX Γ Δ [31, 110] [0, 1, 2, 4, 5, 6, 7, 8, 9, 10, 11, 12, 13, 14, 15, 19, 27, 35, 48, 54, 61, 68] (evs ?_)
    all_goals (try with_reducible (repeat' (first | apply And.intro | intro _)))
    all_goals (try (first | with_reducible refine wa_id ?_ | exact True.intro | omega | (rw [tab_len]; omega)))
    refine V_ret (evs ?_)
    first | exact bk0 _ (fe1 hc) | exact bk0 _ (fe2 ‹_› hc) | (rw [fall hY hc]; exact bk _ (fe3 hm hR)) | (rw [yall hY hc]; exact bk _ (fe3 hm hR))
  · refine WA_skip ?_
    refine WA_seq (x := (fcd Try.f25 [1, 1, 0])) (y := (fcd Try.f25 [1, 1, 1])) ?_
    refine WA_seq (x := (fcd Try.f25 [1, 1, 0, 0])) (y := (fcd Try.f25 [1, 1, 0, 1])) ?_
    refine V_regionX Γ Δ [31, 110] [0, 1, 2, 4, 5, 6, 7, 8, 9, 10, 11, 12, 13, 14, 15, 19, 27, 35, 48, 54, 61, 68] (evs ?_)
    all_goals (try with_reducible (repeat' (first | apply And.intro | intro _)))
    all_goals (try (first | with_reducible refine wa_id ?_ | exact True.intro | omega | (rw [tab_len]; omega)))
    refine V_cond (evs ?_)
    refine ⟨fun hc => ?_, fun hc => ?_⟩
    · refine WA_seq (x := (fcd Try.f25 [1, 1, 0, 1, 0, 0])) (y := (fcd Try.f25 [1, 1, 0, 1, 0, 1])) ?_
      refine V_regionX Γ Δ [31, 110] [0, 1, 2, 4, 5, 6, 7, 8, 9, 10, 11, 12, 13, 14, 15, 19, 27, 35, 48, 54, 61, 68] (evs ?_)
      all_goals (try with_reducible (repeat' (first | apply And.intro | intro _)))
      all_goals (try (first | with_reducible refine wa_id ?_ | exact True.intro | omega | (rw [tab_len]; omega)))
      refine V_ret (evs ?_)
      first | exact bk0 _ (fe1 hc) | exact bk0 _ (fe2 ‹_› hc) | (rw [fall hY hc]; exact bk _ (fe3 hm hR)) | (rw [yall hY hc]; exact bk _ (fe3 hm hR))
    · refine WA_skip ?_
      refine WA_seq (x := (fcd Try.f25 [1, 1, 1, 0])) (y := (fcd Try.f25 [1, 1, 1, 1])) ?_
      refine V_regionX Γ Δ [31, 110] [0, 1, 2, 4, 5, 6, 7, 8, 9, 10, 11, 12, 13, 14, 15, 19, 27, 35, 48, 54, 61, 68] (evs ?_)
      have hm := ‹mchkE m = 0›
      have hq := mchk0 hm
      have hz := hq.1
      have hz2 := hz
      unfold Z0 at hz2
      have hnb := nn_bd hz
      have hln := hq.2.2.1
      have hr := hc
      obtain ⟨R, rfl⟩ : ∃ R : Nat, r = (R : Int) := ⟨r.toNat, by omega⟩
      have hR : R ≤ 7 := by omega
      simp (maxSteps := 10000000) (disch := omega) only [w64]
      simp only [t2R]
      all_goals (try with_reducible (repeat' (first | apply And.intro | intro _)))
      all_goals (try (first | with_reducible refine wa_id ?_ | exact True.intro | exact rbin_fn _ (by omega) | omega | (rw [tab_len]; omega)))
      refine WA_seq (x := (fcd Try.f25 [1, 1, 1, 1, 0])) (y := (fcd Try.f25 [1, 1, 1, 1, 1])) ?_
      refine V_regionX Γ Δ [31, 110] [0, 1, 2, 4, 5, 6, 7, 8, 9, 10, 11, 12, 13, 14, 15, 19, 27, 35, 48, 54, 61, 68] (evs ?_)
      all_goals (try with_reducible (repeat' (first | apply And.intro | intro _)))
      all_goals (try (first | with_reducible refine wa_id ?_ | exact True.intro | omega | (rw [tab_len]; omega)))
      refine WA_seq (x := (fcd Try.f25 [1, 1, 1, 1, 1, 0])) (y := (fcd Try.f25 [1, 1, 1, 1, 1, 1])) ?_
      refine WA_seq (x := (fcd Try.f25 [1, 1, 1, 1, 1, 0, 0])) (y := (fcd Try.f25 [1, 1, 1, 1, 1, 0, 1])) ?_
      refine V_regionX Γ Δ [31, 110] [0, 1, 2, 4, 5, 6, 7, 8, 9, 10, 11, 12, 13, 14, 15, 19, 27, 35, 48, 54, 61, 68] (evs ?_)
      all_goals (try with_reducible (repeat' (first | apply And.intro | intro _)))
      all_goals (try (first | with_reducible refine wa_id ?_ | exact True.intro | omega | (rw [tab_len]; omega)))
      refine WA_block (c := (fcd Try.f25 [1, 1, 1, 1, 1, 0, 1, 0])) ?_
      refine V_loop (c := (fcd Try.f25 [1, 1, 1, 1, 1, 0, 1, 0, 0])) (α := Nat) [8, 9, 35] [] (fun k => [(9, .dat (.i (k : Int))), (8, .dat (.i (2 ^ k)))]) (fun k => []) (fun k => k ≤ 4 * R) (fun k => 4 * R - k) 0 [] ?_ (evs ?_) ?_
      · exact Nat.zero_le _
      · (try with_reducible (repeat' (first | apply And.intro | intro _)))
        all_goals (first | exact True.intro | omega | (first | rfl))
      · intro k hI
        refine WA_seq (x := (fcd Try.f25 [1, 1, 1, 1, 1, 0, 1, 0, 0, 0])) (y := (fcd Try.f25 [1, 1, 1, 1, 1, 0, 1, 0, 0, 1])) ?_
        refine WA_seq (x := (fcd Try.f25 [1, 1, 1, 1, 1, 0, 1, 0, 0, 0, 0])) (y := (fcd Try.f25 [1, 1, 1, 1, 1, 0, 1, 0, 0, 0, 1])) ?_
        refine V_regionX Γ Δ [31, 110] [0, 1, 2, 4, 5, 6, 7, 8, 9, 10, 11, 12, 13, 14, 15, 19, 27, 35, 48, 54, 61, 68] (evs ?_)
        simp (maxSteps := 10000000) (disch := omega) only [w64]
        all_goals (try with_reducible (repeat' (first | apply And.intro | intro _)))
        all_goals (try (first | with_reducible refine wa_id ?_ | exact True.intro | omega | (rw [tab_len]; omega)))
        refine V_cond (evs ?_)
        refine ⟨fun hc => ?_, fun hc => ?_⟩
        · refine WA_skip ?_
          refine WA_seq (x := (fcd Try.f25 [1, 1, 1, 1, 1, 0, 1, 0, 0, 1, 0])) (y := (fcd Try.f25 [1, 1, 1, 1, 1, 0, 1, 0, 0, 1, 1])) ?_
          refine WA_block (c := (fcd Try.f25 [1, 1, 1, 1, 1, 0, 1, 0, 0, 1, 0, 0])) ?_
          refine V_regionX Γ Δ [31, 110] [0, 1, 2, 4, 5, 6, 7, 8, 9, 10, 11, 12, 13, 14, 15, 19, 27, 35, 48, 54, 61, 68] (evs ?_)
          have hp := p2 k (by omega)
          simp (maxSteps := 10000000) (disch := omega) only [w64]
          all_goals (try with_reducible (repeat' (first | apply And.intro | intro _)))
          all_goals (try (first | with_reducible refine wa_id ?_ | exact True.intro | omega | (rw [tab_len]; omega)))
          refine V_regionX Γ Δ [31, 110] [0, 1, 2, 4, 5, 6, 7, 8, 9, 10, 11, 12, 13, 14, 15, 19, 27, 35, 48, 54, 61, 68] (evs ?_)
          all_goals (try with_reducible (repeat' (first | apply And.intro | intro _)))
          all_goals (try (first | with_reducible refine wa_id ?_ | exact True.intro | omega | (rw [tab_len]; omega)))
          refine V_next [] (k + 1) (evs ?_) ?_ ?_
          all_goals (try with_reducible (repeat' (first | apply And.intro | intro _)))
          all_goals (first | exact True.intro | omega | (first | exact w64l (n := 30) (by omega) (by omega) | exact hp.2.2))
        · refine V_exit (evs ?_)
          refine WA_seq (x := (fcd Try.f25 [1, 1, 1, 1, 1, 1, 0])) (y := (fcd Try.f25 [1, 1, 1, 1, 1, 1, 1])) ?_
          refine V_regionX Γ Δ [31, 110] [0, 1, 2, 4, 5, 6, 7, 8, 9, 10, 11, 12, 13, 14, 15, 19, 27, 35, 48, 54, 61, 68] (evs ?_)
          have hk4 : k = 4 * R := by omega
          subst hk4
          all_goals (try with_reducible (repeat' (first | apply And.intro | intro _)))
          all_goals (try (first | with_reducible refine wa_id ?_ | exact True.intro | omega | (rw [tab_len]; omega)))
          refine WA_seq (x := (fcd Try.f25 [1, 1, 1, 1, 1, 1, 1, 0])) (y := (fcd Try.f25 [1, 1, 1, 1, 1, 1, 1, 1])) ?_
          refine WA_seq (x := (fcd Try.f25 [1, 1, 1, 1, 1, 1, 1, 0, 0])) (y := (fcd Try.f25 [1, 1, 1, 1, 1, 1, 1, 0, 1])) ?_
          refine V_regionX Γ Δ [31, 110] [0, 1, 2, 4, 5, 6, 7, 8, 9, 10, 11, 12, 13, 14, 15, 19, 27, 35, 48, 54, 61, 68] (evs ?_)
          all_goals (try with_reducible (repeat' (first | apply And.intro | intro _)))
          all_goals (try (first | with_reducible refine wa_id ?_ | exact True.intro | omega | (rw [tab_len]; omega)))
          refine WA_block (c := (fcd Try.f25 [1, 1, 1, 1, 1, 1, 1, 0, 1, 0])) ?_
          refine V_loop (c := (fcd Try.f25 [1, 1, 1, 1, 1, 1, 1, 0, 1, 0, 0])) (α := Nat) [11, 12, 13, 14, 15, 48, 54, 61, 68] [10, 110, 111, 20200, 20201, 20202, 20203, 20900, 20901, 20902, 20903] (fun y => [(11, .dat (.i (y : Int)))]) (fun y => [(20000, some (true, .arr 3 1 ((tab (y * m.w.toNat) (gF m.w.toNat (fF m (R : Int)))).map iC))), (10, some (true, .box 24 [.dat (.i m.w), .dat (.i m.h), .vw 20000 0 (y * m.w.toNat) 1]))]) (fun y => y ≤ m.h.toNat) (fun y => m.h.toNat - y) 0 [(20000, none)] ?_ (evs ?_) ?_
          · exact Nat.zero_le _
          · (try with_reducible (repeat' (first | apply And.intro | intro _)))
            all_goals (first | exact True.intro | omega | (first | rfl | (simp [tab]; done)))
          · intro y hY
            refine WA_seq (x := (fcd Try.f25 [1, 1, 1, 1, 1, 1, 1, 0, 1, 0, 0, 0])) (y := (fcd Try.f25 [1, 1, 1, 1, 1, 1, 1, 0, 1, 0, 0, 1])) ?_
            refine WA_seq (x := (fcd Try.f25 [1, 1, 1, 1, 1, 1, 1, 0, 1, 0, 0, 0, 0])) (y := (fcd Try.f25 [1, 1, 1, 1, 1, 1, 1, 0, 1, 0, 0, 0, 1])) ?_
            refine V_regionX Γ Δ [31, 110] [0, 1, 2, 4, 5, 6, 7, 8, 9, 10, 11, 12, 13, 14, 15, 19, 27, 35, 48, 54, 61, 68] (evs ?_)
            all_goals (try with_reducible (repeat' (first | apply And.intro | intro _)))
            all_goals (try (first | with_reducible refine wa_id ?_ | exact True.intro | omega | (rw [tab_len]; omega)))
            refine V_cond (evs ?_)
            refine ⟨fun hc => ?_, fun hc => ?_⟩
            · refine WA_skip ?_
              refine WA_seq (x := (fcd Try.f25 [1, 1, 1, 1, 1, 1, 1, 0, 1, 0, 0, 1, 0])) (y := (fcd Try.f25 [1, 1, 1, 1, 1, 1, 1, 0, 1, 0, 0, 1, 1])) ?_
              refine WA_block (c := (fcd Try.f25 [1, 1, 1, 1, 1, 1, 1, 0, 1, 0, 0, 1, 0, 0])) ?_
              refine WA_seq (x := (fcd Try.f25 [1, 1, 1, 1, 1, 1, 1, 0, 1, 0, 0, 1, 0, 0, 0])) (y := (fcd Try.f25 [1, 1, 1, 1, 1, 1, 1, 0, 1, 0, 0, 1, 0, 0, 1])) ?_
              refine V_regionX Γ Δ [31, 110] [0, 1, 2, 4, 5, 6, 7, 8, 9, 10, 11, 12, 13, 14, 15, 19, 27, 35, 48, 54, 61, 68] (evs ?_)
              all_goals (try with_reducible (repeat' (first | apply And.intro | intro _)))
              all_goals (try (first | with_reducible refine wa_id ?_ | exact True.intro | omega | (rw [tab_len]; omega)))
              refine WA_block (c := (fcd Try.f25 [1, 1, 1, 1, 1, 1, 1, 0, 1, 0, 0, 1, 0, 0, 1, 0])) ?_
              refine V_loop (c := (fcd Try.f25 [1, 1, 1, 1, 1, 1, 1, 0, 1, 0, 0, 1, 0, 0, 1, 0, 0])) (α := Nat) [12, 13, 14, 15, 54, 61, 68] [10, 110, 111, 20000, 20200, 20201, 20202, 20203, 20900, 20901, 20902, 20903] (fun x => [(12, .dat (.i (x : Int)))]) (fun x => [(20001, some (true, .arr 3 1 ((tab (y * m.w.toNat + x) (gF m.w.toNat (fF m (R : Int)))).map iC))), (10, some (true, .box 24 [.dat (.i m.w), .dat (.i m.h), .vw 20001 0 (y * m.w.toNat + x) 1]))]) (fun x => x ≤ m.w.toNat) (fun x => m.w.toNat - x) 0 [(20001, some 20000)] ?_ (evs ?_) ?_
              · exact Nat.zero_le _
              · (try with_reducible (repeat' (first | apply And.intro | intro _)))
                all_goals (first | exact True.intro | omega | (first | rfl | (simp [tab]; done)))
              · intro x hX
                refine WA_seq (x := (fcd Try.f25 [1, 1, 1, 1, 1, 1, 1, 0, 1, 0, 0, 1, 0, 0, 1, 0, 0, 0])) (y := (fcd Try.f25 [1, 1, 1, 1, 1, 1, 1, 0, 1, 0, 0, 1, 0, 0, 1, 0, 0, 1])) ?_
                refine WA_seq (x := (fcd Try.f25 [1, 1, 1, 1, 1, 1, 1, 0, 1, 0, 0, 1, 0, 0, 1, 0, 0, 0, 0])) (y := (fcd Try.f25 [1, 1, 1, 1, 1, 1, 1, 0, 1, 0, 0, 1, 0, 0, 1, 0, 0, 0, 1])) ?_
                refine V_regionX Γ Δ [31, 110] [0, 1, 2, 4, 5, 6, 7, 8, 9, 10, 11, 12, 13, 14, 15, 19, 27, 35, 48, 54, 61, 68] (evs ?_)
                all_goals (try with_reducible (repeat' (first | apply And.intro | intro _)))
                all_goals (try (first | with_reducible refine wa_id ?_ | exact True.intro | omega | (rw [tab_len]; omega)))
                refine V_cond (evs ?_)
                refine ⟨fun hc => ?_, fun hc => ?_⟩
                · refine WA_skip ?_
                  refine WA_seq (x := (fcd Try.f25 [1, 1, 1, 1, 1, 1, 1, 0, 1, 0, 0, 1, 0, 0, 1, 0, 0, 1, 0])) (y := (fcd Try.f25 [1, 1, 1, 1, 1, 1, 1, 0, 1, 0, 0, 1, 0, 0, 1, 0, 0, 1, 1])) ?_
                  refine WA_block (c := (fcd Try.f25 [1, 1, 1, 1, 1, 1, 1, 0, 1, 0, 0, 1, 0, 0, 1, 0, 0, 1, 0, 0])) ?_
                  refine WA_seq (x := (fcd Try.f25 [1, 1, 1, 1, 1, 1, 1, 0, 1, 0, 0, 1, 0, 0, 1, 0, 0, 1, 0, 0, 0])) (y := (fcd Try.f25 [1, 1, 1, 1, 1, 1, 1, 0, 1, 0, 0, 1, 0, 0, 1, 0, 0, 1, 0, 0, 1])) ?_
                  refine V_regionX Γ Δ [31, 110] [0, 1, 2, 4, 5, 6, 7, 8, 9, 10, 11, 12, 13, 14, 15, 19, 27, 35, 48, 54, 61, 68] (evs ?_)
                  all_goals (try with_reducible (repeat' (first | apply And.intro | intro _)))
                  all_goals (try (first | with_reducible refine wa_id ?_ | exact True.intro | omega | (rw [tab_len]; omega)))
                  refine WA_seq (x := (fcd Try.f25 [1, 1, 1, 1, 1, 1, 1, 0, 1, 0, 0, 1, 0, 0, 1, 0, 0, 1, 0, 0, 1, 0])) (y := (fcd Try.f25 [1, 1, 1, 1, 1, 1, 1, 0, 1, 0, 0, 1, 0, 0, 1, 0, 0, 1, 0, 0, 1, 1])) ?_
                  refine WA_seq (x := (fcd Try.f25 [1, 1, 1, 1, 1, 1, 1, 0, 1, 0, 0, 1, 0, 0, 1, 0, 0, 1, 0, 0, 1, 0, 0])) (y := (fcd Try.f25 [1, 1, 1, 1, 1, 1, 1, 0, 1, 0, 0, 1, 0, 0, 1, 0, 0, 1, 0, 0, 1, 0, 1])) ?_
                  refine V_regionX Γ Δ [31, 110] [0, 1, 2, 4, 5, 6, 7, 8, 9, 10, 11, 12, 13, 14, 15, 19, 27, 35, 48, 54, 61, 68] (evs ?_)
                  simp (maxSteps := 10000000) (disch := omega) only [w64]
                  all_goals (try with_reducible (repeat' (first | apply And.intro | intro _)))
                  all_goals (try (first | with_reducible refine wa_id ?_ | exact True.intro | omega | (rw [tab_len]; omega)))
                  refine WA_block (c := (fcd Try.f25 [1, 1, 1, 1, 1, 1, 1, 0, 1, 0, 0, 1, 0, 0, 1, 0, 0, 1, 0, 0, 1, 0, 1, 0])) ?_
                  refine V_loop (c := (fcd Try.f25 [1, 1, 1, 1, 1, 1, 1, 0, 1, 0, 0, 1, 0, 0, 1, 0, 0, 1, 0, 0, 1, 0, 1, 0, 0])) (α := Nat) [13, 14, 15, 61, 68] [20200, 20201, 20202, 20203] (fun j => [(14, .dat (.i ((j : Int) - R))), (13, .dat (.i (sum2 (ftT m R (x : Int) (y : Int)) (2 * R + 1) j 0)))]) (fun j => []) (fun j => j ≤ 2 * R + 1) (fun j => 2 * R + 1 - j) 0 [] ?_ (evs ?_) ?_
                  · exact Nat.zero_le _
                  · (try with_reducible (repeat' (first | apply And.intro | intro _)))
                    all_goals (first | exact True.intro | omega | (first | omega | (simp [sum2]; done)))
                  · intro j hJ
                    refine WA_seq (x := (fcd Try.f25 [1, 1, 1, 1, 1, 1, 1, 0, 1, 0, 0, 1, 0, 0, 1, 0, 0, 1, 0, 0, 1, 0, 1, 0, 0, 0])) (y := (fcd Try.f25 [1, 1, 1, 1, 1, 1, 1, 0, 1, 0, 0, 1, 0, 0, 1, 0, 0, 1, 0, 0, 1, 0, 1, 0, 0, 1])) ?_
                    refine WA_seq (x := (fcd Try.f25 [1, 1, 1, 1, 1, 1, 1, 0, 1, 0, 0, 1, 0, 0, 1, 0, 0, 1, 0, 0, 1, 0, 1, 0, 0, 0, 0])) (y := (fcd Try.f25 [1, 1, 1, 1, 1, 1, 1, 0, 1, 0, 0, 1, 0, 0, 1, 0, 0, 1, 0, 0, 1, 0, 1, 0, 0, 0, 1])) ?_
                    refine V_regionX Γ Δ [31, 110] [0, 1, 2, 4, 5, 6, 7, 8, 9, 10, 11, 12, 13, 14, 15, 19, 27, 35, 48, 54, 61, 68] (evs ?_)
                    all_goals (try with_reducible (repeat' (first | apply And.intro | intro _)))
                    all_goals (try (first | with_reducible refine wa_id ?_ | exact True.intro | omega | (rw [tab_len]; omega)))
                    refine V_cond (evs ?_)
                    refine ⟨fun hc => ?_, fun hc => ?_⟩
                    · refine WA_skip ?_
                      refine WA_seq (x := (fcd Try.f25 [1, 1, 1, 1, 1, 1, 1, 0, 1, 0, 0, 1, 0, 0, 1, 0, 0, 1, 0, 0, 1, 0, 1, 0, 0, 1, 0])) (y := (fcd Try.f25 [1, 1, 1, 1, 1, 1, 1, 0, 1, 0, 0, 1, 0, 0, 1, 0, 0, 1, 0, 0, 1, 0, 1, 0, 0, 1, 1])) ?_
                      refine WA_block (c := (fcd Try.f25 [1, 1, 1, 1, 1, 1, 1, 0, 1, 0, 0, 1, 0, 0, 1, 0, 0, 1, 0, 0, 1, 0, 1, 0, 0, 1, 0, 0])) ?_
                      refine WA_seq (x := (fcd Try.f25 [1, 1, 1, 1, 1, 1, 1, 0, 1, 0, 0, 1, 0, 0, 1, 0, 0, 1, 0, 0, 1, 0, 1, 0, 0, 1, 0, 0, 0])) (y := (fcd Try.f25 [1, 1, 1, 1, 1, 1, 1, 0, 1, 0, 0, 1, 0, 0, 1, 0, 0, 1, 0, 0, 1, 0, 1, 0, 0, 1, 0, 0, 1])) ?_
                      refine V_regionX Γ Δ [31, 110] [0, 1, 2, 4, 5, 6, 7, 8, 9, 10, 11, 12, 13, 14, 15, 19, 27, 35, 48, 54, 61, 68] (evs ?_)
                      simp (maxSteps := 10000000) (disch := omega) only [w64]
                      all_goals (try with_reducible (repeat' (first | apply And.intro | intro _)))
                      all_goals (try (first | with_reducible refine wa_id ?_ | exact True.intro | omega | (rw [tab_len]; omega)))
                      refine WA_block (c := (fcd Try.f25 [1, 1, 1, 1, 1, 1, 1, 0, 1, 0, 0, 1, 0, 0, 1, 0, 0, 1, 0, 0, 1, 0, 1, 0, 0, 1, 0, 0, 1, 0])) ?_
                      refine V_loop (c := (fcd Try.f25 [1, 1, 1, 1, 1, 1, 1, 0, 1, 0, 0, 1, 0, 0, 1, 0, 0, 1, 0, 0, 1, 0, 1, 0, 0, 1, 0, 0, 1, 0, 0])) (α := Nat) [13, 15, 68] [20200, 20201, 20202, 20203] (fun i => [(15, .dat (.i ((i : Int) - R))), (13, .dat (.i (sum2 (ftT m R (x : Int) (y : Int)) (2 * R + 1) j i)))]) (fun i => []) (fun i => i ≤ 2 * R + 1) (fun i => 2 * R + 1 - i) 0 [] ?_ (evs ?_) ?_
                      · exact Nat.zero_le _
                      · (try with_reducible (repeat' (first | apply And.intro | intro _)))
                        all_goals (first | exact True.intro | omega | (first | omega | rfl))
                      · intro i hI
                        refine WA_seq (x := (fcd Try.f25 [1, 1, 1, 1, 1, 1, 1, 0, 1, 0, 0, 1, 0, 0, 1, 0, 0, 1, 0, 0, 1, 0, 1, 0, 0, 1, 0, 0, 1, 0, 0, 0])) (y := (fcd Try.f25 [1, 1, 1, 1, 1, 1, 1, 0, 1, 0, 0, 1, 0, 0, 1, 0, 0, 1, 0, 0, 1, 0, 1, 0, 0, 1, 0, 0, 1, 0, 0, 1])) ?_
                        refine WA_seq (x := (fcd Try.f25 [1, 1, 1, 1, 1, 1, 1, 0, 1, 0, 0, 1, 0, 0, 1, 0, 0, 1, 0, 0, 1, 0, 1, 0, 0, 1, 0, 0, 1, 0, 0, 0, 0])) (y := (fcd Try.f25 [1, 1, 1, 1, 1, 1, 1, 0, 1, 0, 0, 1, 0, 0, 1, 0, 0, 1, 0, 0, 1, 0, 1, 0, 0, 1, 0, 0, 1, 0, 0, 0, 1])) ?_
                        refine V_regionX Γ Δ [31, 110] [0, 1, 2, 4, 5, 6, 7, 8, 9, 10, 11, 12, 13, 14, 15, 19, 27, 35, 48, 54, 61, 68] (evs ?_)
                        all_goals (try with_reducible (repeat' (first | apply And.intro | intro _)))
                        all_goals (try (first | with_reducible refine wa_id ?_ | exact True.intro | omega | (rw [tab_len]; omega)))
                        refine V_cond (evs ?_)
                        refine ⟨fun hc => ?_, fun hc => ?_⟩
                        · refine WA_skip ?_
                          refine WA_seq (x := (fcd Try.f25 [1, 1, 1, 1, 1, 1, 1, 0, 1, 0, 0, 1, 0, 0, 1, 0, 0, 1, 0, 0, 1, 0, 1, 0, 0, 1, 0, 0, 1, 0, 0, 1, 0])) (y := (fcd Try.f25 [1, 1, 1, 1, 1, 1, 1, 0, 1, 0, 0, 1, 0, 0, 1, 0, 0, 1, 0, 0, 1, 0, 1, 0, 0, 1, 0, 0, 1, 0, 0, 1, 1])) ?_
                          refine WA_block (c := (fcd Try.f25 [1, 1, 1, 1, 1, 1, 1, 0, 1, 0, 0, 1, 0, 0, 1, 0, 0, 1, 0, 0, 1, 0, 1, 0, 0, 1, 0, 0, 1, 0, 0, 1, 0, 0])) ?_
                          refine V_draw Γ [31, 110] [0, 1, 2, 4, 5, 6, 7, 8, 9, 10, 11, 12, 13, 14, 15, 19, 27, 35, 48, 54, 61, 68] mixed (by kernel_rfl) (evs ?_)
                          have hxy : (y : Int) < m.h ∧ (x : Int) < m.w := ⟨‹_›, ‹_›⟩
                          have b1 := pq_bd (pas_bd (k := 2 * R) (by omega) i) (pas_bd (k := 2 * R) (by omega) j)
                          have b2 := clamp_bd hm ((x : Int) + i - R) ((y : Int) + j - R)
                          have b3 := pqv_bd b1 b2
                          have b4 := ft_sum hm hR x y (j := j) (i := i) (by omega) (by omega)
                          simp (maxSteps := 10000000) (disch := omega) only [w64]
                          simp only [rIx, Int.toNat_natCast]
                          simp only [tgI (show (i : Int) < ((2 * R + 1 : Nat) : Int) by omega), tgI (show (j : Int) < ((2 * R + 1 : Nat) : Int) by omega)]
                          simp only [adE]
                          all_goals (try with_reducible (repeat' (first | apply And.intro | intro _)))
                          all_goals (try (first | with_reducible refine wa_id ?_ | exact True.intro | exact pick_fn ⟨_, _, _⟩ _ _ hm | omega | (rw [tab_len]; omega)))
                          simp only [ft_pick hm (show 0 < m.w by omega)]
                          simp (maxSteps := 10000000) (disch := omega) only [w64]
                          refine V_regionX Γ Δ [31, 110] [0, 1, 2, 4, 5, 6, 7, 8, 9, 10, 11, 12, 13, 14, 15, 19, 27, 35, 48, 54, 61, 68] (evs ?_)
                          all_goals (try with_reducible (repeat' (first | apply And.intro | intro _)))
                          all_goals (try (first | with_reducible refine wa_id ?_ | exact True.intro | omega | (rw [tab_len]; omega)))
                          refine V_next [] (i + 1) (evs ?_) ?_ ?_
                          all_goals (try with_reducible (repeat' (first | apply And.intro | intro _)))
                          all_goals (first | exact True.intro | omega | (first | (rw [w64 (by omega) (by omega)]; omega) | (rw [sum2_succ]; rfl)))
                        · refine V_exit (evs ?_)
                          refine V_regionX Γ Δ [31, 110] [0, 1, 2, 4, 5, 6, 7, 8, 9, 10, 11, 12, 13, 14, 15, 19, 27, 35, 48, 54, 61, 68] (evs ?_)
                          all_goals (try with_reducible (repeat' (first | apply And.intro | intro _)))
                          all_goals (try (first | with_reducible refine wa_id ?_ | exact True.intro | omega | (rw [tab_len]; omega)))
                          refine V_next [] (j + 1) (evs ?_) ?_ ?_
                          all_goals (try with_reducible (repeat' (first | apply And.intro | intro _)))
                          all_goals (first | exact True.intro | omega | (first | (rw [w64 (by omega) (by omega)]; omega) | exact sum2_over _ (by omega)))
                    · refine V_exit (evs ?_)
                      refine V_draw Γ [31, 110] [0, 1, 2, 4, 5, 6, 7, 8, 9, 10, 11, 12, 13, 14, 15, 19, 27, 35, 48, 54, 61, 68] mixed (by kernel_rfl) (evs ?_)
                      have hi := yxI hz ‹(y : Int) < _› ‹(x : Int) < _›
                      have ha := ap_b hz ‹(y : Int) < _› ‹(x : Int) < _›
                      have hj : j = 2 * R + 1 := by omega
                      subst hj
                      have b4 := ft_sum hm hR x y (j := 2 * R + 1) (i := 0) (by omega) (by omega)
                      have hs4 := sh4 R (by omega)
                      all_goals (try with_reducible (repeat' (first | apply And.intro | intro _)))
                      all_goals (try (first | with_reducible refine wa_id ?_ | exact True.intro | exact rdiv_fn _ _ (by omega) (by omega) (by omega) (by omega) | omega | (rw [tab_len]; omega)))
                      simp only [fFE]
                      refine V_regionX Γ Δ [31, 110] [0, 1, 2, 4, 5, 6, 7, 8, 9, 10, 11, 12, 13, 14, 15, 19, 27, 35, 48, 54, 61, 68] (evs ?_)
                      all_goals (try with_reducible (repeat' (first | apply And.intro | intro _)))
                      all_goals (try (first | with_reducible refine wa_id ?_ | exact True.intro | omega | (rw [tab_len]; omega)))
                      refine V_next [(20001, some 111)] (x + 1) (evs ?_) ?_ ?_
                      all_goals (try with_reducible (repeat' (first | apply And.intro | intro _)))
                      all_goals (first | exact True.intro | omega | (first | exact w64l (n := 256) (by omega) (by omega) | exact tab_app (gF_at (F := fF m (R : Int)) (show x < m.w.toNat by omega)).symm))
                · refine V_exit (evs ?_)
                  refine V_regionX Γ Δ [31, 110] [0, 1, 2, 4, 5, 6, 7, 8, 9, 10, 11, 12, 13, 14, 15, 19, 27, 35, 48, 54, 61, 68] (evs ?_)
                  all_goals (try with_reducible (repeat' (first | apply And.intro | intro _)))
                  all_goals (try (first | with_reducible refine wa_id ?_ | exact True.intro | omega | (rw [tab_len]; omega)))
                  refine V_next [(20000, some 20001)] (y + 1) (evs ?_) ?_ ?_
                  all_goals (try with_reducible (repeat' (first | apply And.intro | intro _)))
                  all_goals (first | exact True.intro | omega | (first | exact w64l (n := 256) (by omega) (by omega) | (rw [row_e (w := m.w.toNat) (y := y) (x := x) (by omega) (by omega)]; done)))
            · refine V_exit (evs ?_)
              refine WA_seq (x := (fcd Try.f25 [1, 1, 1, 1, 1, 1, 1, 1, 0])) (y := (fcd Try.f25 [1, 1, 1, 1, 1, 1, 1, 1, 1])) ?_
              refine V_regionX Γ Δ [31, 110] [0, 1, 2, 4, 5, 6, 7, 8, 9, 10, 11, 12, 13, 14, 15, 19, 27, 35, 48, 54, 61, 68] (evs ?_)
              all_goals (try with_reducible (repeat' (first | apply And.intro | intro _)))
              all_goals (try (first | with_reducible refine wa_id ?_ | exact True.intro | omega | (rw [tab_len]; omega)))
              refine V_ret (evs ?_)
              first | exact bk0 _ (fe1 hc) | exact bk0 _ (fe2 ‹_› hc) | (rw [fall hY hc]; exact bk _ (fe3 hm hR)) | (rw [yall hY hc]; exact bk _ (fe3 hm hR))

end Go.S23

