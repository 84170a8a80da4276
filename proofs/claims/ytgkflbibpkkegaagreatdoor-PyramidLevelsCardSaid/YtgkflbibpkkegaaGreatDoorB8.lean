import Derived.Test.YtgkflbibpkkegaaGreatDoorB7
import Derived.Test.YtgkflbibpkkegaaGreatDoorB4
import Derived.Test.YtgkflbibpkkegaaGreatDoorB1
set_option linter.unusedSimpArgs false
set_option linter.unusedVariables false
set_option linter.unusedSimpArgs false
set_option linter.unusedVariables false
namespace Go.S35
open Go.RowKit Go.Proofs Go.Eng Go.Rect
set_option maxHeartbeats 16000000 in
set_option maxRecDepth 100000 in
theorem rhalf_fn (m : Im) : Eng.Fn Tryz.prog 16 [imD m] (.tup [.agg [.dat (.i (hfI m).w), .dat (.i (hfI m).h), .own 44 4 ((hfI m).p.map pxC)], .dat (.i (ichkE m))]) := by
  refine Eng.Fn.by (fn := Tryz.f16) 80 [.cell 2 31, .tmp 3] Tryz.func16 rfl Tryz.ntmps16 rfl (by simp) fun w0 G0 => ?_
  refine WA_seq (x := (fcd Tryz.f16 [0])) (y := (fcd Tryz.f16 [1])) ?_
  refine V_regionX Γ Δ [] [0, 1, 2, 3, 4, 5, 6, 7, 8, 9, 10, 11, 12, 13, 17, 33, 38, 42, 64] (evs ?_)
  all_goals (try with_reducible (repeat' (first | apply And.intro | intro _)))
  all_goals (try (first | with_reducible refine wa_id ?_ | exact True.intro | omega | exact ratp_fn ⟨_, _, _⟩ _ _ | (rw [tabP_len]; omega)))
  refine WA_seq (x := (fcd Tryz.f16 [1, 0])) (y := (fcd Tryz.f16 [1, 1])) ?_
  refine V_regionX Γ Δ [] [0, 1, 2, 3, 4, 5, 6, 7, 8, 9, 10, 11, 12, 13, 17, 33, 38, 42, 64] (evs ?_)
  all_goals (try with_reducible (repeat' (first | apply And.intro | intro _)))
  all_goals (try (first | with_reducible refine wa_id ?_ | exact True.intro | exact richeck_fn ⟨_, _, _⟩ | omega | exact ratp_fn ⟨_, _, _⟩ _ _ | (rw [tabP_len]; omega)))
  refine WA_seq (x := (fcd Tryz.f16 [1, 1, 0])) (y := (fcd Tryz.f16 [1, 1, 1])) ?_
  refine WA_seq (x := (fcd Tryz.f16 [1, 1, 0, 0])) (y := (fcd Tryz.f16 [1, 1, 0, 1])) ?_
  refine V_regionX Γ Δ [] [0, 1, 2, 3, 4, 5, 6, 7, 8, 9, 10, 11, 12, 13, 17, 33, 38, 42, 64] (evs ?_)
  all_goals (try with_reducible (repeat' (first | apply And.intro | intro _)))
  all_goals (try (first | with_reducible refine wa_id ?_ | exact True.intro | omega | exact ratp_fn ⟨_, _, _⟩ _ _ | (rw [tabP_len]; omega)))
  refine V_cond (evs ?_)
  refine ⟨fun hc => ?_, fun hc => ?_⟩
  · refine WA_seq (x := (fcd Tryz.f16 [1, 1, 0, 1, 0, 0])) (y := (fcd Tryz.f16 [1, 1, 0, 1, 0, 1])) ?_
    refine V_regionX Γ Δ [] [0, 1, 2, 3, 4, 5, 6, 7, 8, 9, 10, 11, 12, 13, 17, 33, 38, 42, 64] (evs ?_)
    all_goals (try with_reducible (repeat' (first | apply And.intro | intro _)))
    all_goals (try (first | with_reducible refine wa_id ?_ | exact True.intro | omega | exact ratp_fn ⟨_, _, _⟩ _ _ | (rw [tabP_len]; omega)))
    refine V_ret (evs ?_)
    first | exact ik0 _ ⟨hf_1 hc, rfl⟩ | (rw [hf_1 hc]; exact ⟨rfl, rfl, rfl⟩) | (rw [hf_0 hm]; exact ⟨⟨rfl, rfl, rfl⟩, hm.symm⟩) | (rw [hf_0 hm]; exact ⟨rfl, rfl, rfl⟩) | (rw [tbE hY hc]; exact ik (hfI m) ⟨hf_0 hm, hm⟩) | (rw [tbE hY hc]; exact ikl (hfI m) (by rw [tabP_len]) ⟨hf_0 hm, hm⟩)
  · refine WA_skip ?_
    refine WA_seq (x := (fcd Tryz.f16 [1, 1, 1, 0])) (y := (fcd Tryz.f16 [1, 1, 1, 1])) ?_
    refine V_regionX Γ Δ [] [0, 1, 2, 3, 4, 5, 6, 7, 8, 9, 10, 11, 12, 13, 17, 33, 38, 42, 64] (evs ?_)
    have hm := hc
    have hz := (ichk0 hm).1
    unfold Z0 at hz
    have hz2 := half_z hm
    have hnb := nn_bd hz2
    have hz3 := hz2
    unfold Z0 at hz3
    all_goals (try with_reducible (repeat' (first | apply And.intro | intro _)))
    all_goals (try (first | with_reducible refine wa_id ?_ | exact True.intro | exact rsize_fn _ _ _ | omega | exact ratp_fn ⟨_, _, _⟩ _ _ | (rw [tabP_len]; omega)))
    simp only [sz_1 (show 0 ≤ m.w ∧ m.w ≤ 256 by omega), sz_1 (show 0 ≤ m.h ∧ m.h ≤ 256 by omega)]
    refine WA_seq (x := (fcd Tryz.f16 [1, 1, 1, 1, 0])) (y := (fcd Tryz.f16 [1, 1, 1, 1, 1])) ?_
    refine V_regionX Γ Δ [] [0, 1, 2, 3, 4, 5, 6, 7, 8, 9, 10, 11, 12, 13, 17, 33, 38, 42, 64] (evs ?_)
    all_goals (try with_reducible (repeat' (first | apply And.intro | intro _)))
    all_goals (try (first | with_reducible refine wa_id ?_ | exact True.intro | omega | exact ratp_fn ⟨_, _, _⟩ _ _ | (rw [tabP_len]; omega)))
    refine WA_seq (x := (fcd Tryz.f16 [1, 1, 1, 1, 1, 0])) (y := (fcd Tryz.f16 [1, 1, 1, 1, 1, 1])) ?_
    refine WA_seq (x := (fcd Tryz.f16 [1, 1, 1, 1, 1, 0, 0])) (y := (fcd Tryz.f16 [1, 1, 1, 1, 1, 0, 1])) ?_
    refine V_regionX Γ Δ [] [0, 1, 2, 3, 4, 5, 6, 7, 8, 9, 10, 11, 12, 13, 17, 33, 38, 42, 64] (evs ?_)
    all_goals (try with_reducible (repeat' (first | apply And.intro | intro _)))
    all_goals (try (first | with_reducible refine wa_id ?_ | exact True.intro | omega | exact ratp_fn ⟨_, _, _⟩ _ _ | (rw [tabP_len]; omega)))
    refine WA_block (c := (fcd Tryz.f16 [1, 1, 1, 1, 1, 0, 1, 0])) ?_
    refine V_loop (c := (fcd Tryz.f16 [1, 1, 1, 1, 1, 0, 1, 0, 0])) (α := Nat) [8, 9, 10, 11, 12, 13, 33, 38, 42, 64] [7, 70, 71, 76, 77, 16900, 16901, 16902, 16903, 17500, 17501, 17502, 17503] (fun y => [(8, .dat (.i (y : Int)))]) (fun y => [(20000, some (true, .arr 44 4 ((tabP (y * (hfN m.w).toNat) (gP (hfN m.w).toNat (hfP m))).map pxC))), (7, some (true, .box 31 [.dat (.i (hfN m.w)), .dat (.i (hfN m.h)), .vw 20000 0 (y * (hfN m.w).toNat) 4]))]) (fun y => y ≤ (hfN m.h).toNat) (fun y => (hfN m.h).toNat - y) 0 [(20000, none)] ?_ (evs ?_) ?_
    · exact Nat.zero_le _
    · (try with_reducible (repeat' (first | apply And.intro | intro _)))
      all_goals (first | exact True.intro | omega | (first | rfl | (simp [tabP]; done)))
    · intro y hY
      refine WA_seq (x := (fcd Tryz.f16 [1, 1, 1, 1, 1, 0, 1, 0, 0, 0])) (y := (fcd Tryz.f16 [1, 1, 1, 1, 1, 0, 1, 0, 0, 1])) ?_
      refine WA_seq (x := (fcd Tryz.f16 [1, 1, 1, 1, 1, 0, 1, 0, 0, 0, 0])) (y := (fcd Tryz.f16 [1, 1, 1, 1, 1, 0, 1, 0, 0, 0, 1])) ?_
      refine V_regionX Γ Δ [] [0, 1, 2, 3, 4, 5, 6, 7, 8, 9, 10, 11, 12, 13, 17, 33, 38, 42, 64] (evs ?_)
      all_goals (try with_reducible (repeat' (first | apply And.intro | intro _)))
      all_goals (try (first | with_reducible refine wa_id ?_ | exact True.intro | omega | exact ratp_fn ⟨_, _, _⟩ _ _ | (rw [tabP_len]; omega)))
      refine V_cond (evs ?_)
      refine ⟨fun hc => ?_, fun hc => ?_⟩
      · refine WA_skip ?_
        refine WA_seq (x := (fcd Tryz.f16 [1, 1, 1, 1, 1, 0, 1, 0, 0, 1, 0])) (y := (fcd Tryz.f16 [1, 1, 1, 1, 1, 0, 1, 0, 0, 1, 1])) ?_
        refine WA_block (c := (fcd Tryz.f16 [1, 1, 1, 1, 1, 0, 1, 0, 0, 1, 0, 0])) ?_
        refine WA_seq (x := (fcd Tryz.f16 [1, 1, 1, 1, 1, 0, 1, 0, 0, 1, 0, 0, 0])) (y := (fcd Tryz.f16 [1, 1, 1, 1, 1, 0, 1, 0, 0, 1, 0, 0, 1])) ?_
        refine V_regionX Γ Δ [] [0, 1, 2, 3, 4, 5, 6, 7, 8, 9, 10, 11, 12, 13, 17, 33, 38, 42, 64] (evs ?_)
        all_goals (try with_reducible (repeat' (first | apply And.intro | intro _)))
        all_goals (try (first | with_reducible refine wa_id ?_ | exact True.intro | omega | exact ratp_fn ⟨_, _, _⟩ _ _ | (rw [tabP_len]; omega)))
        refine WA_block (c := (fcd Tryz.f16 [1, 1, 1, 1, 1, 0, 1, 0, 0, 1, 0, 0, 1, 0])) ?_
        refine V_loop (c := (fcd Tryz.f16 [1, 1, 1, 1, 1, 0, 1, 0, 0, 1, 0, 0, 1, 0, 0])) (α := Nat) [9, 10, 11, 12, 13, 38, 42, 64] [7, 70, 71, 76, 77, 16900, 16901, 16902, 16903, 17500, 17501, 17502, 17503, 20000] (fun x => [(9, .dat (.i (x : Int)))]) (fun x => [(20001, some (true, .arr 44 4 ((tabP (y * (hfN m.w).toNat + x) (gP (hfN m.w).toNat (hfP m))).map pxC))), (7, some (true, .box 31 [.dat (.i (hfN m.w)), .dat (.i (hfN m.h)), .vw 20001 0 (y * (hfN m.w).toNat + x) 4]))]) (fun x => x ≤ (hfN m.w).toNat) (fun x => (hfN m.w).toNat - x) 0 [(20001, some 20000)] ?_ (evs ?_) ?_
        · exact Nat.zero_le _
        · (try with_reducible (repeat' (first | apply And.intro | intro _)))
          all_goals (first | exact True.intro | omega | (first | rfl | (simp [tabP]; done)))
        · intro x hX
          refine WA_seq (x := (fcd Tryz.f16 [1, 1, 1, 1, 1, 0, 1, 0, 0, 1, 0, 0, 1, 0, 0, 0])) (y := (fcd Tryz.f16 [1, 1, 1, 1, 1, 0, 1, 0, 0, 1, 0, 0, 1, 0, 0, 1])) ?_
          refine WA_seq (x := (fcd Tryz.f16 [1, 1, 1, 1, 1, 0, 1, 0, 0, 1, 0, 0, 1, 0, 0, 0, 0])) (y := (fcd Tryz.f16 [1, 1, 1, 1, 1, 0, 1, 0, 0, 1, 0, 0, 1, 0, 0, 0, 1])) ?_
          refine V_regionX Γ Δ [] [0, 1, 2, 3, 4, 5, 6, 7, 8, 9, 10, 11, 12, 13, 17, 33, 38, 42, 64] (evs ?_)
          all_goals (try with_reducible (repeat' (first | apply And.intro | intro _)))
          all_goals (try (first | with_reducible refine wa_id ?_ | exact True.intro | omega | exact ratp_fn ⟨_, _, _⟩ _ _ | (rw [tabP_len]; omega)))
          refine V_cond (evs ?_)
          refine ⟨fun hc => ?_, fun hc => ?_⟩
          · refine WA_skip ?_
            refine WA_seq (x := (fcd Tryz.f16 [1, 1, 1, 1, 1, 0, 1, 0, 0, 1, 0, 0, 1, 0, 0, 1, 0])) (y := (fcd Tryz.f16 [1, 1, 1, 1, 1, 0, 1, 0, 0, 1, 0, 0, 1, 0, 0, 1, 1])) ?_
            refine WA_block (c := (fcd Tryz.f16 [1, 1, 1, 1, 1, 0, 1, 0, 0, 1, 0, 0, 1, 0, 0, 1, 0, 0])) ?_
            refine WA_seq (x := (fcd Tryz.f16 [1, 1, 1, 1, 1, 0, 1, 0, 0, 1, 0, 0, 1, 0, 0, 1, 0, 0, 0])) (y := (fcd Tryz.f16 [1, 1, 1, 1, 1, 0, 1, 0, 0, 1, 0, 0, 1, 0, 0, 1, 0, 0, 1])) ?_
            refine V_regionX Γ Δ [] [0, 1, 2, 3, 4, 5, 6, 7, 8, 9, 10, 11, 12, 13, 17, 33, 38, 42, 64] (evs ?_)
            have hxl : (x : Int) < hfN m.w := by omega
            have hyl : (y : Int) < hfN m.h := by omega
            have hxv : 2 * (x : Int) < m.w := by unfold hfN at *; omega
            have hyv : 2 * (y : Int) < m.h := by unfold hfN at *; omega
            all_goals (try with_reducible (repeat' (first | apply And.intro | intro _)))
            all_goals (try (first | with_reducible refine wa_id ?_ | exact True.intro | omega | exact ratp_fn ⟨_, _, _⟩ _ _ | (rw [tabP_len]; omega)))
            refine WA_seq (x := (fcd Tryz.f16 [1, 1, 1, 1, 1, 0, 1, 0, 0, 1, 0, 0, 1, 0, 0, 1, 0, 0, 1, 0])) (y := (fcd Tryz.f16 [1, 1, 1, 1, 1, 0, 1, 0, 0, 1, 0, 0, 1, 0, 0, 1, 0, 0, 1, 1])) ?_
            refine WA_seq (x := (fcd Tryz.f16 [1, 1, 1, 1, 1, 0, 1, 0, 0, 1, 0, 0, 1, 0, 0, 1, 0, 0, 1, 0, 0])) (y := (fcd Tryz.f16 [1, 1, 1, 1, 1, 0, 1, 0, 0, 1, 0, 0, 1, 0, 0, 1, 0, 0, 1, 0, 1])) ?_
            refine V_regionX Γ Δ [] [0, 1, 2, 3, 4, 5, 6, 7, 8, 9, 10, 11, 12, 13, 17, 33, 38, 42, 64] (evs ?_)
            all_goals (try with_reducible (repeat' (first | apply And.intro | intro _)))
            all_goals (try (first | with_reducible refine wa_id ?_ | exact True.intro | omega | exact ratp_fn ⟨_, _, _⟩ _ _ | (rw [tabP_len]; omega)))
            refine WA_block (c := (fcd Tryz.f16 [1, 1, 1, 1, 1, 0, 1, 0, 0, 1, 0, 0, 1, 0, 0, 1, 0, 0, 1, 0, 1, 0])) ?_
            refine V_loop (c := (fcd Tryz.f16 [1, 1, 1, 1, 1, 0, 1, 0, 0, 1, 0, 0, 1, 0, 0, 1, 0, 0, 1, 0, 1, 0, 0])) (α := Nat) [10, 11, 12, 13, 42, 64] [70, 71, 16900, 16901, 16902, 16903] (fun k => [(11, .dat (.i (k : Int))), (10, .vw 20002 0 (rfL m (x : Int) (y : Int) k).length 4)]) (fun k => [(20002, some (true, .arr 44 4 (((rfL m (x : Int) (y : Int) k)).map pxC)))]) (fun k => k ≤ 4) (fun k => 4 - k) 0 [(20002, none)] ?_ (evs ?_) ?_
            · omega
            · (try with_reducible (repeat' (first | apply And.intro | intro _)))
              all_goals (first | exact True.intro | omega | (first | rfl | (simp; done)))
            · intro k hK
              refine WA_seq (x := (fcd Tryz.f16 [1, 1, 1, 1, 1, 0, 1, 0, 0, 1, 0, 0, 1, 0, 0, 1, 0, 0, 1, 0, 1, 0, 0, 0])) (y := (fcd Tryz.f16 [1, 1, 1, 1, 1, 0, 1, 0, 0, 1, 0, 0, 1, 0, 0, 1, 0, 0, 1, 0, 1, 0, 0, 1])) ?_
              refine WA_seq (x := (fcd Tryz.f16 [1, 1, 1, 1, 1, 0, 1, 0, 0, 1, 0, 0, 1, 0, 0, 1, 0, 0, 1, 0, 1, 0, 0, 0, 0])) (y := (fcd Tryz.f16 [1, 1, 1, 1, 1, 0, 1, 0, 0, 1, 0, 0, 1, 0, 0, 1, 0, 0, 1, 0, 1, 0, 0, 0, 1])) ?_
              refine V_regionX Γ Δ [] [0, 1, 2, 3, 4, 5, 6, 7, 8, 9, 10, 11, 12, 13, 17, 33, 38, 42, 64] (evs ?_)
              all_goals (try with_reducible (repeat' (first | apply And.intro | intro _)))
              all_goals (try (first | with_reducible refine wa_id ?_ | exact True.intro | omega | exact ratp_fn ⟨_, _, _⟩ _ _ | (rw [tabP_len]; omega)))
              refine V_cond (evs ?_)
              refine ⟨fun hc => ?_, fun hc => ?_⟩
              · refine WA_skip ?_
                refine WA_seq (x := (fcd Tryz.f16 [1, 1, 1, 1, 1, 0, 1, 0, 0, 1, 0, 0, 1, 0, 0, 1, 0, 0, 1, 0, 1, 0, 0, 1, 0])) (y := (fcd Tryz.f16 [1, 1, 1, 1, 1, 0, 1, 0, 0, 1, 0, 0, 1, 0, 0, 1, 0, 0, 1, 0, 1, 0, 0, 1, 1])) ?_
                refine WA_block (c := (fcd Tryz.f16 [1, 1, 1, 1, 1, 0, 1, 0, 0, 1, 0, 0, 1, 0, 0, 1, 0, 0, 1, 0, 1, 0, 0, 1, 0, 0])) ?_
                refine WA_seq (x := (fcd Tryz.f16 [1, 1, 1, 1, 1, 0, 1, 0, 0, 1, 0, 0, 1, 0, 0, 1, 0, 0, 1, 0, 1, 0, 0, 1, 0, 0, 0])) (y := (fcd Tryz.f16 [1, 1, 1, 1, 1, 0, 1, 0, 0, 1, 0, 0, 1, 0, 0, 1, 0, 0, 1, 0, 1, 0, 0, 1, 0, 0, 1])) ?_
                refine V_regionX Γ Δ [] [0, 1, 2, 3, 4, 5, 6, 7, 8, 9, 10, 11, 12, 13, 17, 33, 38, 42, 64] (evs ?_)
                simp only [td2, tm2]
                (try simp (maxSteps := 10000000) (disch := omega) only [w64])
                all_goals (try with_reducible (repeat' (first | apply And.intro | intro _)))
                all_goals (try (first | with_reducible refine wa_id ?_ | exact True.intro | omega | exact ratp_fn ⟨_, _, _⟩ _ _ | (rw [tabP_len]; omega)))
                refine WA_seq (x := (fcd Tryz.f16 [1, 1, 1, 1, 1, 0, 1, 0, 0, 1, 0, 0, 1, 0, 0, 1, 0, 0, 1, 0, 1, 0, 0, 1, 0, 0, 1, 0])) (y := (fcd Tryz.f16 [1, 1, 1, 1, 1, 0, 1, 0, 0, 1, 0, 0, 1, 0, 0, 1, 0, 0, 1, 0, 1, 0, 0, 1, 0, 0, 1, 1])) ?_
                refine V_regionX Γ Δ [] [0, 1, 2, 3, 4, 5, 6, 7, 8, 9, 10, 11, 12, 13, 17, 33, 38, 42, 64] (evs ?_)
                all_goals (try with_reducible (repeat' (first | apply And.intro | intro _)))
                all_goals (try (first | with_reducible refine wa_id ?_ | exact True.intro | omega | exact ratp_fn ⟨_, _, _⟩ _ _ | (rw [tabP_len]; omega)))
                refine V_cond (evs ?_)
                refine ⟨fun hc => ?_, fun hc => ?_⟩
                · refine V_regionX Γ Δ [] [0, 1, 2, 3, 4, 5, 6, 7, 8, 9, 10, 11, 12, 13, 17, 33, 38, 42, 64] (evs ?_)
                  have hin := and_of hc
                  have hrl := rfL_len m (x : Int) (y : Int) k
                  all_goals (try with_reducible (repeat' (first | apply And.intro | intro _)))
                  all_goals (try (first | with_reducible refine wa_id ?_ | exact True.intro | exact ratp_fn ⟨_, _, _⟩ _ _ | omega | exact ratp_fn ⟨_, _, _⟩ _ _ | (rw [tabP_len]; omega)))
                  simp only [at_in hm hin]
                  refine V_regionX Γ Δ [] [0, 1, 2, 3, 4, 5, 6, 7, 8, 9, 10, 11, 12, 13, 17, 33, 38, 42, 64] (evs ?_)
                  all_goals (try with_reducible (repeat' (first | apply And.intro | intro _)))
                  all_goals (try (first | with_reducible refine wa_id ?_ | exact True.intro | omega | exact ratp_fn ⟨_, _, _⟩ _ _ | (rw [tabP_len]; omega)))
                  refine V_next [(20002, some 71)] (k + 1) (evs ?_) ?_ ?_
                  all_goals (try with_reducible (repeat' (first | apply And.intro | intro _)))
                  all_goals (first | exact True.intro | omega | (first | exact w64l (n := 8) (by omega) (by omega) | (rw [rfL_y hin, List.length_append]; rfl) | (rw [rfL_y hin, List.map_append]; rfl) | (rw [rfL_n (ndO hc)]; done)))
                · refine WA_skip ?_
                  refine V_regionX Γ Δ [] [0, 1, 2, 3, 4, 5, 6, 7, 8, 9, 10, 11, 12, 13, 17, 33, 38, 42, 64] (evs ?_)
                  all_goals (try with_reducible (repeat' (first | apply And.intro | intro _)))
                  all_goals (try (first | with_reducible refine wa_id ?_ | exact True.intro | omega | exact ratp_fn ⟨_, _, _⟩ _ _ | (rw [tabP_len]; omega)))
                  refine V_next [(20002, some 20002)] (k + 1) (evs ?_) ?_ ?_
                  all_goals (try with_reducible (repeat' (first | apply And.intro | intro _)))
                  all_goals (first | exact True.intro | omega | (first | exact w64l (n := 8) (by omega) (by omega) | (rw [rfL_y hin, List.length_append]; rfl) | (rw [rfL_y hin, List.map_append]; rfl) | (rw [rfL_n (ndO hc)]; done)))
              · refine V_exit (evs ?_)
                refine V_draw Γ [] [0, 1, 2, 3, 4, 5, 6, 7, 8, 9, 10, 11, 12, 13, 17, 33, 38, 42, 64] mixed (by kernel_rfl) (evs ?_)
                have hke : k = 4 := by omega
                subst hke
                have h4 := rfL_4 (m := m) (x := (x : Int)) (y := (y : Int)) ⟨by omega, hxl⟩ ⟨by omega, hyl⟩
                simp only [h4]
                have q1 := hfA_ps hxl hyl
                have q2 := hfA_le m (x : Int) (y : Int)
                have q3 := hfA_ok (m := m) (x := (x : Int)) (y := (y : Int)) hm (by omega) (by omega)
                have hi := yxI hz2 hyl hxl
                all_goals (try with_reducible (repeat' (first | apply And.intro | intro _)))
                all_goals (try (first | with_reducible refine wa_id ?_ | exact True.intro | exact rmean_fn _ (by assumption) (by assumption) (by assumption) | omega | exact ratp_fn ⟨_, _, _⟩ _ _ | (rw [tabP_len]; omega)))
                refine V_regionX Γ Δ [] [0, 1, 2, 3, 4, 5, 6, 7, 8, 9, 10, 11, 12, 13, 17, 33, 38, 42, 64] (evs ?_)
                all_goals (try with_reducible (repeat' (first | apply And.intro | intro _)))
                all_goals (try (first | with_reducible refine wa_id ?_ | exact True.intro | omega | exact ratp_fn ⟨_, _, _⟩ _ _ | (rw [tabP_len]; omega)))
                refine V_next [(20001, some 77)] (x + 1) (evs ?_) ?_ ?_
                all_goals (try with_reducible (repeat' (first | apply And.intro | intro _)))
                all_goals (first | exact True.intro | omega | (first | exact w64l (n := 256) (by omega) (by omega) | exact tabP_app (gP_at (F := (hfP m)) (show x < (hfN m.w).toNat by omega)).symm))
          · refine V_exit (evs ?_)
            refine V_regionX Γ Δ [] [0, 1, 2, 3, 4, 5, 6, 7, 8, 9, 10, 11, 12, 13, 17, 33, 38, 42, 64] (evs ?_)
            all_goals (try with_reducible (repeat' (first | apply And.intro | intro _)))
            all_goals (try (first | with_reducible refine wa_id ?_ | exact True.intro | omega | exact ratp_fn ⟨_, _, _⟩ _ _ | (rw [tabP_len]; omega)))
            refine V_next [(20000, some 20001)] (y + 1) (evs ?_) ?_ ?_
            all_goals (try with_reducible (repeat' (first | apply And.intro | intro _)))
            all_goals (first | exact True.intro | omega | (first | exact w64l (n := 256) (by omega) (by omega) | (rw [row_e (w := (hfN m.w).toNat) (y := y) (x := x) (by omega) (by omega)]; done)))
      · refine V_exit (evs ?_)
        refine WA_seq (x := (fcd Tryz.f16 [1, 1, 1, 1, 1, 1, 0])) (y := (fcd Tryz.f16 [1, 1, 1, 1, 1, 1, 1])) ?_
        refine V_regionX Γ Δ [] [0, 1, 2, 3, 4, 5, 6, 7, 8, 9, 10, 11, 12, 13, 17, 33, 38, 42, 64] (evs ?_)
        all_goals (try with_reducible (repeat' (first | apply And.intro | intro _)))
        all_goals (try (first | with_reducible refine wa_id ?_ | exact True.intro | omega | exact ratp_fn ⟨_, _, _⟩ _ _ | (rw [tabP_len]; omega)))
        refine V_ret (evs ?_)
        first | exact ik0 _ ⟨hf_1 hc, rfl⟩ | (rw [hf_1 hc]; exact ⟨rfl, rfl, rfl⟩) | (rw [hf_0 hm]; exact ⟨⟨rfl, rfl, rfl⟩, hm.symm⟩) | (rw [hf_0 hm]; exact ⟨rfl, rfl, rfl⟩) | (rw [tbE hY hc]; exact ik (hfI m) ⟨hf_0 hm, hm⟩) | (rw [tbE hY hc]; exact ikl (hfI m) (by rw [tabP_len]) ⟨hf_0 hm, hm⟩)

end Go.S35

