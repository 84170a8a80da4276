import Derived.Test.YtgkflbibpkkegaaGreatDoorL0
import Derived.Test.YtgkflbibpkkegaaGreatDoorB11
set_option linter.unusedSimpArgs false
set_option linter.unusedVariables false
set_option linter.unusedSimpArgs false
set_option linter.unusedVariables false
namespace Go.S35
open Go.RowKit Go.Proofs Go.Eng Go.Rect
set_option maxHeartbeats 16000000 in
set_option maxRecDepth 100000 in
theorem l_means (m : Im) (p : Px) (l : Int) : Eng.Fn Tryz.prog 7 [imD m, pxD p, .i l] (.dat (.b true)) := by
  refine Eng.Fn.by (fn := Tryz.f7) 197 [.tmp 6] Tryz.func7 rfl Tryz.ntmps7 rfl (by simp) fun w0 G0 => ?_
  refine WA_seq (x := (fcd Tryz.f7 [0])) (y := (fcd Tryz.f7 [1])) ?_
  refine V_regionX Γ Δ [29, 141] [0, 1, 2, 3, 4, 6, 7, 8, 9, 10, 11, 12, 13, 14, 15, 16, 17, 18, 19, 20, 21, 22, 25, 62, 65, 66, 67, 69, 70, 95, 109, 113, 133, 158, 168, 169, 170, 178] (evs ?_)
  all_goals (try with_reducible (repeat' (first | apply And.intro | intro _)))
  all_goals (try (first | with_reducible refine wa_id ?_ | exact True.intro | omega))
  refine WA_seq (x := (fcd Tryz.f7 [1, 0])) (y := (fcd Tryz.f7 [1, 1])) ?_
  refine WA_seq (x := (fcd Tryz.f7 [1, 0, 0])) (y := (fcd Tryz.f7 [1, 0, 1])) ?_
  refine V_regionX Γ Δ [29, 141] [0, 1, 2, 3, 4, 6, 7, 8, 9, 10, 11, 12, 13, 14, 15, 16, 17, 18, 19, 20, 21, 22, 25, 62, 65, 66, 67, 69, 70, 95, 109, 113, 133, 158, 168, 169, 170, 178] (evs ?_)
  all_goals (try with_reducible (repeat' (first | apply And.intro | intro _)))
  all_goals (try (first | with_reducible refine wa_id ?_ | exact True.intro | exact icheck_fn ⟨_, _, _⟩ | omega))
  refine V_cond (evs ?_)
  refine ⟨fun hc => ?_, fun hc => ?_⟩
  · refine WA_seq (x := (fcd Tryz.f7 [1, 0, 1, 0, 0])) (y := (fcd Tryz.f7 [1, 0, 1, 0, 1])) ?_
    refine V_regionX Γ Δ [29, 141] [0, 1, 2, 3, 4, 6, 7, 8, 9, 10, 11, 12, 13, 14, 15, 16, 17, 18, 19, 20, 21, 22, 25, 62, 65, 66, 67, 69, 70, 95, 109, 113, 133, 158, 168, 169, 170, 178] (evs ?_)
    all_goals (try with_reducible (repeat' (first | apply And.intro | intro _)))
    all_goals (try (first | with_reducible refine wa_id ?_ | exact True.intro | exact awake_fn | omega))
    refine V_ret (evs ?_)
    first | rfl | (simp; done) | (exfalso; exact px_neB hc (un_px hE.1 hE.2.1 hE.2.2 ‹_›)) | (have h := un_fin hm hE.1 hE.2.1 hE.2.2; first | exact h | exact ⟨h.1, h.2⟩)
  · refine WA_skip ?_
    refine WA_seq (x := (fcd Tryz.f7 [1, 1, 0])) (y := (fcd Tryz.f7 [1, 1, 1])) ?_
    refine V_regionX Γ Δ [29, 141] [0, 1, 2, 3, 4, 6, 7, 8, 9, 10, 11, 12, 13, 14, 15, 16, 17, 18, 19, 20, 21, 22, 25, 62, 65, 66, 67, 69, 70, 95, 109, 113, 133, 158, 168, 169, 170, 178] (evs ?_)
    have hm := hc
    have hz := (ichk0 hm).1
    unfold Z0 at hz
    have hz2 := half_z hm
    have hnb := nn_bd hz2
    have hz3 := hz2
    unfold Z0 at hz3
    all_goals (try with_reducible (repeat' (first | apply And.intro | intro _)))
    all_goals (try (first | with_reducible refine wa_id ?_ | exact True.intro | exact phalf_fn ⟨_, _, _⟩ | omega))
    simp only [hf_0 hm, half_w, half_h]
    refine WA_seq (x := (fcd Tryz.f7 [1, 1, 1, 0])) (y := (fcd Tryz.f7 [1, 1, 1, 1])) ?_
    refine V_draw Γ [29, 141] [0, 1, 2, 3, 4, 6, 7, 8, 9, 10, 11, 12, 13, 14, 15, 16, 17, 18, 19, 20, 21, 22, 25, 62, 65, 66, 67, 69, 70, 95, 109, 113, 133, 158, 168, 169, 170, 178] mixed (by kernel_rfl) (evs ?_)
    simp only [hf_w (n := m.w) (by omega), hf_w (n := m.h) (by omega)]
    all_goals (try with_reducible (repeat' (first | apply And.intro | intro _)))
    all_goals (try (first | with_reducible refine wa_id ?_ | exact True.intro | omega))
    refine WA_seq (x := (fcd Tryz.f7 [1, 1, 1, 1, 0])) (y := (fcd Tryz.f7 [1, 1, 1, 1, 1])) ?_
    refine WA_seq (x := (fcd Tryz.f7 [1, 1, 1, 1, 0, 0])) (y := (fcd Tryz.f7 [1, 1, 1, 1, 0, 1])) ?_
    refine V_regionX Γ Δ [29, 141] [0, 1, 2, 3, 4, 6, 7, 8, 9, 10, 11, 12, 13, 14, 15, 16, 17, 18, 19, 20, 21, 22, 25, 62, 65, 66, 67, 69, 70, 95, 109, 113, 133, 158, 168, 169, 170, 178] (evs ?_)
    simp only [wN hz2]
    all_goals (try with_reducible (repeat' (first | apply And.intro | intro _)))
    all_goals (try (first | with_reducible refine wa_id ?_ | exact True.intro | omega))
    refine V_cond (evs ?_)
    refine ⟨fun hc => by exact absurd hc (by omega), fun hc => ?_⟩
    refine WA_skip ?_
    refine WA_seq (x := (fcd Tryz.f7 [1, 1, 1, 1, 1, 0])) (y := (fcd Tryz.f7 [1, 1, 1, 1, 1, 1])) ?_
    refine WA_seq (x := (fcd Tryz.f7 [1, 1, 1, 1, 1, 0, 0])) (y := (fcd Tryz.f7 [1, 1, 1, 1, 1, 0, 1])) ?_
    refine V_regionX Γ Δ [29, 141] [0, 1, 2, 3, 4, 6, 7, 8, 9, 10, 11, 12, 13, 14, 15, 16, 17, 18, 19, 20, 21, 22, 25, 62, 65, 66, 67, 69, 70, 95, 109, 113, 133, 158, 168, 169, 170, 178] (evs ?_)
    all_goals (try with_reducible (repeat' (first | apply And.intro | intro _)))
    all_goals (try (first | with_reducible refine wa_id ?_ | exact True.intro | omega))
    refine WA_block (c := (fcd Tryz.f7 [1, 1, 1, 1, 1, 0, 1, 0])) ?_
    refine V_loop (c := (fcd Tryz.f7 [1, 1, 1, 1, 1, 0, 1, 0, 0])) (α := Nat) [6, 11, 12, 13, 14, 15, 16, 17, 66, 67, 69, 70, 95, 109, 113, 133] [] (fun k => [(66, .dat (.i (k : Int)))]) (fun k => []) (fun k => k ≤ nn (hfN m.w) (hfN m.h)) (fun k => nn (hfN m.w) (hfN m.h) - k) 0 [] ?_ (evs ?_) ?_
    · exact Nat.zero_le _
    · (try with_reducible (repeat' (first | apply And.intro | intro _)))
      all_goals (first | exact True.intro | omega | (first | rfl))
    · intro k hK
      refine WA_seq (x := (fcd Tryz.f7 [1, 1, 1, 1, 1, 0, 1, 0, 0, 0])) (y := (fcd Tryz.f7 [1, 1, 1, 1, 1, 0, 1, 0, 0, 1])) ?_
      refine V_regionX Γ Δ [29, 141] [0, 1, 2, 3, 4, 6, 7, 8, 9, 10, 11, 12, 13, 14, 15, 16, 17, 18, 19, 20, 21, 22, 25, 62, 65, 66, 67, 69, 70, 95, 109, 113, 133, 158, 168, 169, 170, 178] (evs ?_)
      all_goals (try with_reducible (repeat' (first | apply And.intro | intro _)))
      all_goals (try (first | with_reducible refine wa_id ?_ | exact True.intro | omega))
      refine WA_seq (x := (fcd Tryz.f7 [1, 1, 1, 1, 1, 0, 1, 0, 0, 1, 0])) (y := (fcd Tryz.f7 [1, 1, 1, 1, 1, 0, 1, 0, 0, 1, 1])) ?_
      refine V_cond (evs ?_)
      refine ⟨fun hc => ?_, fun hc => ?_⟩
      · refine WA_skip ?_
        refine WA_seq (x := (fcd Tryz.f7 [1, 1, 1, 1, 1, 0, 1, 0, 0, 1, 1, 0])) (y := (fcd Tryz.f7 [1, 1, 1, 1, 1, 0, 1, 0, 0, 1, 1, 1])) ?_
        refine WA_block (c := (fcd Tryz.f7 [1, 1, 1, 1, 1, 0, 1, 0, 0, 1, 1, 0, 0])) ?_
        refine WA_seq (x := (fcd Tryz.f7 [1, 1, 1, 1, 1, 0, 1, 0, 0, 1, 1, 0, 0, 0])) (y := (fcd Tryz.f7 [1, 1, 1, 1, 1, 0, 1, 0, 0, 1, 1, 0, 0, 1])) ?_
        refine V_regionX Γ Δ [29, 141] [0, 1, 2, 3, 4, 6, 7, 8, 9, 10, 11, 12, 13, 14, 15, 16, 17, 18, 19, 20, 21, 22, 25, 62, 65, 66, 67, 69, 70, 95, 109, 113, 133, 158, 168, 169, 170, 178] (evs ?_)
        obtain ⟨X, Y, hX, hY, hXw, hYh, hw0⟩ := ix_XY hz2 ‹(k : Int) < _›
        all_goals (try with_reducible (repeat' (first | apply And.intro | intro _)))
        all_goals (try (first | with_reducible refine wa_id ?_ | exact True.intro | omega))
        refine WA_seq (x := (fcd Tryz.f7 [1, 1, 1, 1, 1, 0, 1, 0, 0, 1, 1, 0, 0, 1, 0])) (y := (fcd Tryz.f7 [1, 1, 1, 1, 1, 0, 1, 0, 0, 1, 1, 0, 0, 1, 1])) ?_
        refine V_regionX Γ Δ [29, 141] [0, 1, 2, 3, 4, 6, 7, 8, 9, 10, 11, 12, 13, 14, 15, 16, 17, 18, 19, 20, 21, 22, 25, 62, 65, 66, 67, 69, 70, 95, 109, 113, 133, 158, 168, 169, 170, 178] (evs ?_)
        all_goals (try with_reducible (repeat' (first | apply And.intro | intro _)))
        all_goals (try (first | with_reducible refine wa_id ?_ | exact True.intro | omega))
        refine WA_seq (x := (fcd Tryz.f7 [1, 1, 1, 1, 1, 0, 1, 0, 0, 1, 1, 0, 0, 1, 1, 0])) (y := (fcd Tryz.f7 [1, 1, 1, 1, 1, 0, 1, 0, 0, 1, 1, 0, 0, 1, 1, 1])) ?_
        refine WA_seq (x := (fcd Tryz.f7 [1, 1, 1, 1, 1, 0, 1, 0, 0, 1, 1, 0, 0, 1, 1, 0, 0])) (y := (fcd Tryz.f7 [1, 1, 1, 1, 1, 0, 1, 0, 0, 1, 1, 0, 0, 1, 1, 0, 1])) ?_
        refine V_regionX Γ Δ [29, 141] [0, 1, 2, 3, 4, 6, 7, 8, 9, 10, 11, 12, 13, 14, 15, 16, 17, 18, 19, 20, 21, 22, 25, 62, 65, 66, 67, 69, 70, 95, 109, 113, 133, 158, 168, 169, 170, 178] (evs ?_)
        all_goals (try with_reducible (repeat' (first | apply And.intro | intro _)))
        all_goals (try (first | with_reducible refine wa_id ?_ | exact True.intro | omega))
        refine WA_block (c := (fcd Tryz.f7 [1, 1, 1, 1, 1, 0, 1, 0, 0, 1, 1, 0, 0, 1, 1, 0, 1, 0])) ?_
        refine V_loop (c := (fcd Tryz.f7 [1, 1, 1, 1, 1, 0, 1, 0, 0, 1, 1, 0, 0, 1, 1, 0, 1, 0, 0])) (α := Nat) [12, 13, 14, 15, 16, 17, 69, 70, 95, 109, 113] [] (fun n => [(69, .dat (.i (n : Int))), (12, .dat (.i (loL (rfL m (X : Int) (Y : Int) n)))), (13, .dat (.i (hiL (rfL m (X : Int) (Y : Int) n))))]) (fun n => []) (fun n => n ≤ 4) (fun n => 4 - n) 0 [] ?_ (evs ?_) ?_
        · omega
        · (try with_reducible (repeat' (first | apply And.intro | intro _)))
          all_goals (first | exact True.intro | omega | (first | rfl))
        · intro n hN
          refine WA_seq (x := (fcd Tryz.f7 [1, 1, 1, 1, 1, 0, 1, 0, 0, 1, 1, 0, 0, 1, 1, 0, 1, 0, 0, 0])) (y := (fcd Tryz.f7 [1, 1, 1, 1, 1, 0, 1, 0, 0, 1, 1, 0, 0, 1, 1, 0, 1, 0, 0, 1])) ?_
          refine V_regionX Γ Δ [29, 141] [0, 1, 2, 3, 4, 6, 7, 8, 9, 10, 11, 12, 13, 14, 15, 16, 17, 18, 19, 20, 21, 22, 25, 62, 65, 66, 67, 69, 70, 95, 109, 113, 133, 158, 168, 169, 170, 178] (evs ?_)
          all_goals (try with_reducible (repeat' (first | apply And.intro | intro _)))
          all_goals (try (first | with_reducible refine wa_id ?_ | exact True.intro | omega))
          refine WA_seq (x := (fcd Tryz.f7 [1, 1, 1, 1, 1, 0, 1, 0, 0, 1, 1, 0, 0, 1, 1, 0, 1, 0, 0, 1, 0])) (y := (fcd Tryz.f7 [1, 1, 1, 1, 1, 0, 1, 0, 0, 1, 1, 0, 0, 1, 1, 0, 1, 0, 0, 1, 1])) ?_
          refine V_cond (evs ?_)
          refine ⟨fun hc => ?_, fun hc => ?_⟩
          · refine WA_skip ?_
            refine WA_seq (x := (fcd Tryz.f7 [1, 1, 1, 1, 1, 0, 1, 0, 0, 1, 1, 0, 0, 1, 1, 0, 1, 0, 0, 1, 1, 0])) (y := (fcd Tryz.f7 [1, 1, 1, 1, 1, 0, 1, 0, 0, 1, 1, 0, 0, 1, 1, 0, 1, 0, 0, 1, 1, 1])) ?_
            refine WA_block (c := (fcd Tryz.f7 [1, 1, 1, 1, 1, 0, 1, 0, 0, 1, 1, 0, 0, 1, 1, 0, 1, 0, 0, 1, 1, 0, 0])) ?_
            refine WA_seq (x := (fcd Tryz.f7 [1, 1, 1, 1, 1, 0, 1, 0, 0, 1, 1, 0, 0, 1, 1, 0, 1, 0, 0, 1, 1, 0, 0, 0])) (y := (fcd Tryz.f7 [1, 1, 1, 1, 1, 0, 1, 0, 0, 1, 1, 0, 0, 1, 1, 0, 1, 0, 0, 1, 1, 0, 0, 1])) ?_
            refine V_regionX Γ Δ [29, 141] [0, 1, 2, 3, 4, 6, 7, 8, 9, 10, 11, 12, 13, 14, 15, 16, 17, 18, 19, 20, 21, 22, 25, 62, 65, 66, 67, 69, 70, 95, 109, 113, 133, 158, 168, 169, 170, 178] (evs ?_)
            all_goals (try with_reducible (repeat' (first | apply And.intro | intro _)))
            all_goals (try (first | with_reducible refine wa_id ?_ | exact True.intro | omega))
            refine WA_seq (x := (fcd Tryz.f7 [1, 1, 1, 1, 1, 0, 1, 0, 0, 1, 1, 0, 0, 1, 1, 0, 1, 0, 0, 1, 1, 0, 0, 1, 0])) (y := (fcd Tryz.f7 [1, 1, 1, 1, 1, 0, 1, 0, 0, 1, 1, 0, 0, 1, 1, 0, 1, 0, 0, 1, 1, 0, 0, 1, 1])) ?_
            refine V_draw Γ [29, 141] [0, 1, 2, 3, 4, 6, 7, 8, 9, 10, 11, 12, 13, 14, 15, 16, 17, 18, 19, 20, 21, 22, 25, 62, 65, 66, 67, 69, 70, 95, 109, 113, 133, 158, 168, 169, 170, 178] mixed (by kernel_rfl) (evs ?_)
            simp only [tmN hw0, tdN hw0, hX, hY, td2, tm2]
            (try simp (maxSteps := 10000000) (disch := omega) only [w64])
            all_goals (try with_reducible (repeat' (first | apply And.intro | intro _)))
            all_goals (try (first | with_reducible refine wa_id ?_ | exact True.intro | omega))
            refine WA_seq (x := (fcd Tryz.f7 [1, 1, 1, 1, 1, 0, 1, 0, 0, 1, 1, 0, 0, 1, 1, 0, 1, 0, 0, 1, 1, 0, 0, 1, 1, 0])) (y := (fcd Tryz.f7 [1, 1, 1, 1, 1, 0, 1, 0, 0, 1, 1, 0, 0, 1, 1, 0, 1, 0, 0, 1, 1, 0, 0, 1, 1, 1])) ?_
            refine V_regionX Γ Δ [29, 141] [0, 1, 2, 3, 4, 6, 7, 8, 9, 10, 11, 12, 13, 14, 15, 16, 17, 18, 19, 20, 21, 22, 25, 62, 65, 66, 67, 69, 70, 95, 109, 113, 133, 158, 168, 169, 170, 178] (evs ?_)
            all_goals (try with_reducible (repeat' (first | apply And.intro | intro _)))
            all_goals (try (first | with_reducible refine wa_id ?_ | exact True.intro | omega))
            refine V_cond (evs ?_)
            refine ⟨fun hc => ?_, fun hc => ?_⟩
            · refine WA_seq (x := (fcd Tryz.f7 [1, 1, 1, 1, 1, 0, 1, 0, 0, 1, 1, 0, 0, 1, 1, 0, 1, 0, 0, 1, 1, 0, 0, 1, 1, 1, 0, 0])) (y := (fcd Tryz.f7 [1, 1, 1, 1, 1, 0, 1, 0, 0, 1, 1, 0, 0, 1, 1, 0, 1, 0, 0, 1, 1, 0, 0, 1, 1, 1, 0, 1])) ?_
              refine V_regionX Γ Δ [29, 141] [0, 1, 2, 3, 4, 6, 7, 8, 9, 10, 11, 12, 13, 14, 15, 16, 17, 18, 19, 20, 21, 22, 25, 62, 65, 66, 67, 69, 70, 95, 109, 113, 133, 158, 168, 169, 170, 178] (evs ?_)
              have hin := hc
              have hpi := pkp_ix hm ⟨⟨by omega, hin.1⟩, by omega, hin.2⟩
              (try simp (maxSteps := 10000000) (disch := omega) only [w64])
              all_goals (try with_reducible (repeat' (first | apply And.intro | intro _)))
              all_goals (try (first | with_reducible refine wa_id ?_ | exact True.intro | omega))
              refine WA_seq (x := (fcd Tryz.f7 [1, 1, 1, 1, 1, 0, 1, 0, 0, 1, 1, 0, 0, 1, 1, 0, 1, 0, 0, 1, 1, 0, 0, 1, 1, 1, 0, 1, 0])) (y := (fcd Tryz.f7 [1, 1, 1, 1, 1, 0, 1, 0, 0, 1, 1, 0, 0, 1, 1, 0, 1, 0, 0, 1, 1, 0, 0, 1, 1, 1, 0, 1, 1])) ?_
              refine WA_seq (x := (fcd Tryz.f7 [1, 1, 1, 1, 1, 0, 1, 0, 0, 1, 1, 0, 0, 1, 1, 0, 1, 0, 0, 1, 1, 0, 0, 1, 1, 1, 0, 1, 0, 0])) (y := (fcd Tryz.f7 [1, 1, 1, 1, 1, 0, 1, 0, 0, 1, 1, 0, 0, 1, 1, 0, 1, 0, 0, 1, 1, 0, 0, 1, 1, 1, 0, 1, 0, 1])) ?_
              refine V_regionX Γ Δ [29, 141] [0, 1, 2, 3, 4, 6, 7, 8, 9, 10, 11, 12, 13, 14, 15, 16, 17, 18, 19, 20, 21, 22, 25, 62, 65, 66, 67, 69, 70, 95, 109, 113, 133, 158, 168, 169, 170, 178] (evs ?_)
              all_goals (try with_reducible (repeat' (first | apply And.intro | intro _)))
              all_goals (try (first | with_reducible refine wa_id ?_ | exact True.intro | omega))
              refine V_cond (evs ?_)
              refine ⟨fun hc => ?_, fun hc => ?_⟩
              · refine V_regionX Γ Δ [29, 141] [0, 1, 2, 3, 4, 6, 7, 8, 9, 10, 11, 12, 13, 14, 15, 16, 17, 18, 19, 20, 21, 22, 25, 62, 65, 66, 67, 69, 70, 95, 109, 113, 133, 158, 168, 169, 170, 178] (evs ?_)
                all_goals (try with_reducible (repeat' (first | apply And.intro | intro _)))
                all_goals (try (first | with_reducible refine wa_id ?_ | exact True.intro | omega))
                refine WA_seq (x := (fcd Tryz.f7 [1, 1, 1, 1, 1, 0, 1, 0, 0, 1, 1, 0, 0, 1, 1, 0, 1, 0, 0, 1, 1, 0, 0, 1, 1, 1, 0, 1, 1, 0])) (y := (fcd Tryz.f7 [1, 1, 1, 1, 1, 0, 1, 0, 0, 1, 1, 0, 0, 1, 1, 0, 1, 0, 0, 1, 1, 0, 0, 1, 1, 1, 0, 1, 1, 1])) ?_
                refine V_regionX Γ Δ [29, 141] [0, 1, 2, 3, 4, 6, 7, 8, 9, 10, 11, 12, 13, 14, 15, 16, 17, 18, 19, 20, 21, 22, 25, 62, 65, 66, 67, 69, 70, 95, 109, 113, 133, 158, 168, 169, 170, 178] (evs ?_)
                have hlo := hc
                all_goals (try with_reducible (repeat' (first | apply And.intro | intro _)))
                all_goals (try (first | with_reducible refine wa_id ?_ | exact True.intro | omega))
                refine V_cond (evs ?_)
                refine ⟨fun hc => ?_, fun hc => ?_⟩
                · refine V_regionX Γ Δ [29, 141] [0, 1, 2, 3, 4, 6, 7, 8, 9, 10, 11, 12, 13, 14, 15, 16, 17, 18, 19, 20, 21, 22, 25, 62, 65, 66, 67, 69, 70, 95, 109, 113, 133, 158, 168, 169, 170, 178] (evs ?_)
                  all_goals (try with_reducible (repeat' (first | apply And.intro | intro _)))
                  all_goals (try (first | with_reducible refine wa_id ?_ | exact True.intro | omega))
                  refine V_regionX Γ Δ [29, 141] [0, 1, 2, 3, 4, 6, 7, 8, 9, 10, 11, 12, 13, 14, 15, 16, 17, 18, 19, 20, 21, 22, 25, 62, 65, 66, 67, 69, 70, 95, 109, 113, 133, 158, 168, 169, 170, 178] (evs ?_)
                  have hhi := hc
                  all_goals (try with_reducible (repeat' (first | apply And.intro | intro _)))
                  all_goals (try (first | with_reducible refine wa_id ?_ | exact True.intro | omega))
                  refine V_next [] (n + 1) (evs ?_) ?_ ?_
                  all_goals (try with_reducible (repeat' (first | apply And.intro | intro _)))
                  all_goals (first | exact True.intro | omega | (first | exact w64l (n := 8) (by omega) (by omega) | exact lo_1 hin hlo | exact lo_0 hin hlo | exact hi_1 hin hhi | exact hi_0 hin hhi | (rw [rfL_n (ndO hhi)]; done)))
                · refine WA_skip ?_
                  refine V_regionX Γ Δ [29, 141] [0, 1, 2, 3, 4, 6, 7, 8, 9, 10, 11, 12, 13, 14, 15, 16, 17, 18, 19, 20, 21, 22, 25, 62, 65, 66, 67, 69, 70, 95, 109, 113, 133, 158, 168, 169, 170, 178] (evs ?_)
                  have hhi := hc
                  all_goals (try with_reducible (repeat' (first | apply And.intro | intro _)))
                  all_goals (try (first | with_reducible refine wa_id ?_ | exact True.intro | omega))
                  refine V_next [] (n + 1) (evs ?_) ?_ ?_
                  all_goals (try with_reducible (repeat' (first | apply And.intro | intro _)))
                  all_goals (first | exact True.intro | omega | (first | exact w64l (n := 8) (by omega) (by omega) | exact lo_1 hin hlo | exact lo_0 hin hlo | exact hi_1 hin hhi | exact hi_0 hin hhi | (rw [rfL_n (ndO hhi)]; done)))
              · refine WA_skip ?_
                refine WA_seq (x := (fcd Tryz.f7 [1, 1, 1, 1, 1, 0, 1, 0, 0, 1, 1, 0, 0, 1, 1, 0, 1, 0, 0, 1, 1, 0, 0, 1, 1, 1, 0, 1, 1, 0])) (y := (fcd Tryz.f7 [1, 1, 1, 1, 1, 0, 1, 0, 0, 1, 1, 0, 0, 1, 1, 0, 1, 0, 0, 1, 1, 0, 0, 1, 1, 1, 0, 1, 1, 1])) ?_
                refine V_regionX Γ Δ [29, 141] [0, 1, 2, 3, 4, 6, 7, 8, 9, 10, 11, 12, 13, 14, 15, 16, 17, 18, 19, 20, 21, 22, 25, 62, 65, 66, 67, 69, 70, 95, 109, 113, 133, 158, 168, 169, 170, 178] (evs ?_)
                have hlo := hc
                all_goals (try with_reducible (repeat' (first | apply And.intro | intro _)))
                all_goals (try (first | with_reducible refine wa_id ?_ | exact True.intro | omega))
                refine V_cond (evs ?_)
                refine ⟨fun hc => ?_, fun hc => ?_⟩
                · refine V_regionX Γ Δ [29, 141] [0, 1, 2, 3, 4, 6, 7, 8, 9, 10, 11, 12, 13, 14, 15, 16, 17, 18, 19, 20, 21, 22, 25, 62, 65, 66, 67, 69, 70, 95, 109, 113, 133, 158, 168, 169, 170, 178] (evs ?_)
                  all_goals (try with_reducible (repeat' (first | apply And.intro | intro _)))
                  all_goals (try (first | with_reducible refine wa_id ?_ | exact True.intro | omega))
                  refine V_regionX Γ Δ [29, 141] [0, 1, 2, 3, 4, 6, 7, 8, 9, 10, 11, 12, 13, 14, 15, 16, 17, 18, 19, 20, 21, 22, 25, 62, 65, 66, 67, 69, 70, 95, 109, 113, 133, 158, 168, 169, 170, 178] (evs ?_)
                  have hhi := hc
                  all_goals (try with_reducible (repeat' (first | apply And.intro | intro _)))
                  all_goals (try (first | with_reducible refine wa_id ?_ | exact True.intro | omega))
                  refine V_next [] (n + 1) (evs ?_) ?_ ?_
                  all_goals (try with_reducible (repeat' (first | apply And.intro | intro _)))
                  all_goals (first | exact True.intro | omega | (first | exact w64l (n := 8) (by omega) (by omega) | exact lo_1 hin hlo | exact lo_0 hin hlo | exact hi_1 hin hhi | exact hi_0 hin hhi | (rw [rfL_n (ndO hhi)]; done)))
                · refine WA_skip ?_
                  refine V_regionX Γ Δ [29, 141] [0, 1, 2, 3, 4, 6, 7, 8, 9, 10, 11, 12, 13, 14, 15, 16, 17, 18, 19, 20, 21, 22, 25, 62, 65, 66, 67, 69, 70, 95, 109, 113, 133, 158, 168, 169, 170, 178] (evs ?_)
                  have hhi := hc
                  all_goals (try with_reducible (repeat' (first | apply And.intro | intro _)))
                  all_goals (try (first | with_reducible refine wa_id ?_ | exact True.intro | omega))
                  refine V_next [] (n + 1) (evs ?_) ?_ ?_
                  all_goals (try with_reducible (repeat' (first | apply And.intro | intro _)))
                  all_goals (first | exact True.intro | omega | (first | exact w64l (n := 8) (by omega) (by omega) | exact lo_1 hin hlo | exact lo_0 hin hlo | exact hi_1 hin hhi | exact hi_0 hin hhi | (rw [rfL_n (ndO hhi)]; done)))
            · refine WA_skip ?_
              refine V_regionX Γ Δ [29, 141] [0, 1, 2, 3, 4, 6, 7, 8, 9, 10, 11, 12, 13, 14, 15, 16, 17, 18, 19, 20, 21, 22, 25, 62, 65, 66, 67, 69, 70, 95, 109, 113, 133, 158, 168, 169, 170, 178] (evs ?_)
              have hhi := hc
              all_goals (try with_reducible (repeat' (first | apply And.intro | intro _)))
              all_goals (try (first | with_reducible refine wa_id ?_ | exact True.intro | omega))
              refine V_next [] (n + 1) (evs ?_) ?_ ?_
              all_goals (try with_reducible (repeat' (first | apply And.intro | intro _)))
              all_goals (first | exact True.intro | omega | (first | exact w64l (n := 8) (by omega) (by omega) | exact lo_1 hin hlo | exact lo_0 hin hlo | exact hi_1 hin hhi | exact hi_0 hin hhi | (rw [rfL_n (ndO hhi)]; done)))
          · refine V_exit (evs ?_)
            refine WA_seq (x := (fcd Tryz.f7 [1, 1, 1, 1, 1, 0, 1, 0, 0, 1, 1, 0, 0, 1, 1, 1, 0])) (y := (fcd Tryz.f7 [1, 1, 1, 1, 1, 0, 1, 0, 0, 1, 1, 0, 0, 1, 1, 1, 1])) ?_
            refine V_regionX Γ Δ [29, 141] [0, 1, 2, 3, 4, 6, 7, 8, 9, 10, 11, 12, 13, 14, 15, 16, 17, 18, 19, 20, 21, 22, 25, 62, 65, 66, 67, 69, 70, 95, 109, 113, 133, 158, 168, 169, 170, 178] (evs ?_)
            have hne : n = 4 := by omega
            subst hne
            simp only [hf_get hX hY ‹(k : Int) < _›]
            have hmb := mean_bd (x := (X : Int)) (y := (Y : Int)) hm ⟨by omega, hXw⟩ ⟨by omega, hYh⟩
            all_goals (try with_reducible (repeat' (first | apply And.intro | intro _)))
            all_goals (try (first | with_reducible refine wa_id ?_ | exact True.intro | omega))
            refine V_cond (evs ?_)
            refine ⟨fun hc => by exact absurd hc (by omega), fun hc => ?_⟩
            refine WA_skip ?_
            refine V_regionX Γ Δ [29, 141] [0, 1, 2, 3, 4, 6, 7, 8, 9, 10, 11, 12, 13, 14, 15, 16, 17, 18, 19, 20, 21, 22, 25, 62, 65, 66, 67, 69, 70, 95, 109, 113, 133, 158, 168, 169, 170, 178] (evs ?_)
            all_goals (try with_reducible (repeat' (first | apply And.intro | intro _)))
            all_goals (try (first | with_reducible refine wa_id ?_ | exact True.intro | omega))
            refine V_next [] (k + 1) (evs ?_) ?_ ?_
            all_goals (try with_reducible (repeat' (first | apply And.intro | intro _)))
            all_goals (first | exact True.intro | omega | (first | exact w64l (n := 65536) (by omega) (by omega)))
      · refine V_exit (evs ?_)
        refine WA_seq (x := (fcd Tryz.f7 [1, 1, 1, 1, 1, 1, 0])) (y := (fcd Tryz.f7 [1, 1, 1, 1, 1, 1, 1])) ?_
        refine V_regionX Γ Δ [29, 141] [0, 1, 2, 3, 4, 6, 7, 8, 9, 10, 11, 12, 13, 14, 15, 16, 17, 18, 19, 20, 21, 22, 25, 62, 65, 66, 67, 69, 70, 95, 109, 113, 133, 158, 168, 169, 170, 178] (evs ?_)
        all_goals (try with_reducible (repeat' (first | apply And.intro | intro _)))
        all_goals (try (first | with_reducible refine wa_id ?_ | exact True.intro | exact pnwp_fn _ _ ⟨_, _, _, _⟩ | omega))
        refine WA_seq (x := (fcd Tryz.f7 [1, 1, 1, 1, 1, 1, 1, 0])) (y := (fcd Tryz.f7 [1, 1, 1, 1, 1, 1, 1, 1])) ?_
        refine WA_seq (x := (fcd Tryz.f7 [1, 1, 1, 1, 1, 1, 1, 0, 0])) (y := (fcd Tryz.f7 [1, 1, 1, 1, 1, 1, 1, 0, 1])) ?_
        refine V_regionX Γ Δ [29, 141] [0, 1, 2, 3, 4, 6, 7, 8, 9, 10, 11, 12, 13, 14, 15, 16, 17, 18, 19, 20, 21, 22, 25, 62, 65, 66, 67, 69, 70, 95, 109, 113, 133, 158, 168, 169, 170, 178] (evs ?_)
        all_goals (try with_reducible (repeat' (first | apply And.intro | intro _)))
        all_goals (try (first | with_reducible refine wa_id ?_ | exact True.intro | omega))
        refine V_cond (evs ?_)
        refine ⟨fun hc => ?_, fun hc => ?_⟩
        · refine WA_seq (x := (fcd Tryz.f7 [1, 1, 1, 1, 1, 1, 1, 0, 1, 0, 0])) (y := (fcd Tryz.f7 [1, 1, 1, 1, 1, 1, 1, 0, 1, 0, 1])) ?_
          refine V_regionX Γ Δ [29, 141] [0, 1, 2, 3, 4, 6, 7, 8, 9, 10, 11, 12, 13, 14, 15, 16, 17, 18, 19, 20, 21, 22, 25, 62, 65, 66, 67, 69, 70, 95, 109, 113, 133, 158, 168, 169, 170, 178] (evs ?_)
          all_goals (try with_reducible (repeat' (first | apply And.intro | intro _)))
          all_goals (try (first | with_reducible refine wa_id ?_ | exact True.intro | exact awake_fn | omega))
          refine V_ret (evs ?_)
          first | rfl | (simp; done) | (exfalso; exact px_neB hc (un_px hE.1 hE.2.1 hE.2.2 ‹_›)) | (have h := un_fin hm hE.1 hE.2.1 hE.2.2; first | exact h | exact ⟨h.1, h.2⟩)
        · refine WA_skip ?_
          refine WA_seq (x := (fcd Tryz.f7 [1, 1, 1, 1, 1, 1, 1, 1, 0])) (y := (fcd Tryz.f7 [1, 1, 1, 1, 1, 1, 1, 1, 1])) ?_
          refine V_regionX Γ Δ [29, 141] [0, 1, 2, 3, 4, 6, 7, 8, 9, 10, 11, 12, 13, 14, 15, 16, 17, 18, 19, 20, 21, 22, 25, 62, 65, 66, 67, 69, 70, 95, 109, 113, 133, 158, 168, 169, 170, 178] (evs ?_)
          have hE := mn_h hc
          have hu := un_ok hE.1 hE.2.1
          all_goals (try with_reducible (repeat' (first | apply And.intro | intro _)))
          all_goals (try (first | with_reducible refine wa_id ?_ | exact True.intro | exact preduce_fn ⟨_, _, _⟩ _ | omega))
          refine WA_seq (x := (fcd Tryz.f7 [1, 1, 1, 1, 1, 1, 1, 1, 1, 0])) (y := (fcd Tryz.f7 [1, 1, 1, 1, 1, 1, 1, 1, 1, 1])) ?_
          refine WA_seq (x := (fcd Tryz.f7 [1, 1, 1, 1, 1, 1, 1, 1, 1, 0, 0])) (y := (fcd Tryz.f7 [1, 1, 1, 1, 1, 1, 1, 1, 1, 0, 1])) ?_
          refine V_regionX Γ Δ [29, 141] [0, 1, 2, 3, 4, 6, 7, 8, 9, 10, 11, 12, 13, 14, 15, 16, 17, 18, 19, 20, 21, 22, 25, 62, 65, 66, 67, 69, 70, 95, 109, 113, 133, 158, 168, 169, 170, 178] (evs ?_)
          all_goals (try with_reducible (repeat' (first | apply And.intro | intro _)))
          all_goals (try (first | with_reducible refine wa_id ?_ | exact True.intro | omega))
          refine WA_block (c := (fcd Tryz.f7 [1, 1, 1, 1, 1, 1, 1, 1, 1, 0, 1, 0])) ?_
          refine V_loop (c := (fcd Tryz.f7 [1, 1, 1, 1, 1, 1, 1, 1, 1, 0, 1, 0, 0])) (α := Nat) [6, 22, 169, 170, 178] [] (fun k => [(169, .dat (.i (k : Int)))]) (fun k => []) (fun k => k ≤ (redR (nwpR m.w m.h p) l).p.length) (fun k => (redR (nwpR m.w m.h p) l).p.length - k) 0 [] ?_ (evs ?_) ?_
          · exact Nat.zero_le _
          · (try with_reducible (repeat' (first | apply And.intro | intro _)))
            all_goals (first | exact True.intro | omega | (first | rfl))
          · intro k hK
            refine WA_seq (x := (fcd Tryz.f7 [1, 1, 1, 1, 1, 1, 1, 1, 1, 0, 1, 0, 0, 0])) (y := (fcd Tryz.f7 [1, 1, 1, 1, 1, 1, 1, 1, 1, 0, 1, 0, 0, 1])) ?_
            refine V_regionX Γ Δ [29, 141] [0, 1, 2, 3, 4, 6, 7, 8, 9, 10, 11, 12, 13, 14, 15, 16, 17, 18, 19, 20, 21, 22, 25, 62, 65, 66, 67, 69, 70, 95, 109, 113, 133, 158, 168, 169, 170, 178] (evs ?_)
            all_goals (try with_reducible (repeat' (first | apply And.intro | intro _)))
            all_goals (try (first | with_reducible refine wa_id ?_ | exact True.intro | omega))
            refine WA_seq (x := (fcd Tryz.f7 [1, 1, 1, 1, 1, 1, 1, 1, 1, 0, 1, 0, 0, 1, 0])) (y := (fcd Tryz.f7 [1, 1, 1, 1, 1, 1, 1, 1, 1, 0, 1, 0, 0, 1, 1])) ?_
            refine V_cond (evs ?_)
            refine ⟨fun hc => ?_, fun hc => ?_⟩
            · refine WA_skip ?_
              refine WA_seq (x := (fcd Tryz.f7 [1, 1, 1, 1, 1, 1, 1, 1, 1, 0, 1, 0, 0, 1, 1, 0])) (y := (fcd Tryz.f7 [1, 1, 1, 1, 1, 1, 1, 1, 1, 0, 1, 0, 0, 1, 1, 1])) ?_
              refine WA_block (c := (fcd Tryz.f7 [1, 1, 1, 1, 1, 1, 1, 1, 1, 0, 1, 0, 0, 1, 1, 0, 0])) ?_
              refine WA_seq (x := (fcd Tryz.f7 [1, 1, 1, 1, 1, 1, 1, 1, 1, 0, 1, 0, 0, 1, 1, 0, 0, 0])) (y := (fcd Tryz.f7 [1, 1, 1, 1, 1, 1, 1, 1, 1, 0, 1, 0, 0, 1, 1, 0, 0, 1])) ?_
              refine V_regionX Γ Δ [29, 141] [0, 1, 2, 3, 4, 6, 7, 8, 9, 10, 11, 12, 13, 14, 15, 16, 17, 18, 19, 20, 21, 22, 25, 62, 65, 66, 67, 69, 70, 95, 109, 113, 133, 158, 168, 169, 170, 178] (evs ?_)
              all_goals (try with_reducible (repeat' (first | apply And.intro | intro _)))
              all_goals (try (first | with_reducible refine wa_id ?_ | exact True.intro | omega))
              refine WA_seq (x := (fcd Tryz.f7 [1, 1, 1, 1, 1, 1, 1, 1, 1, 0, 1, 0, 0, 1, 1, 0, 0, 1, 0])) (y := (fcd Tryz.f7 [1, 1, 1, 1, 1, 1, 1, 1, 1, 0, 1, 0, 0, 1, 1, 0, 0, 1, 1])) ?_
              refine V_draw Γ [29, 141] [0, 1, 2, 3, 4, 6, 7, 8, 9, 10, 11, 12, 13, 14, 15, 16, 17, 18, 19, 20, 21, 22, 25, 62, 65, 66, 67, 69, 70, 95, 109, 113, 133, 158, 168, 169, 170, 178] mixed (by kernel_rfl) (evs ?_)
              all_goals (try with_reducible (repeat' (first | apply And.intro | intro _)))
              all_goals (try (first | with_reducible refine wa_id ?_ | exact True.intro | omega))
              refine V_cond (evs ?_)
              refine ⟨fun hc => ?_, fun hc => ?_⟩
              · refine WA_seq (x := (fcd Tryz.f7 [1, 1, 1, 1, 1, 1, 1, 1, 1, 0, 1, 0, 0, 1, 1, 0, 0, 1, 1, 0, 0])) (y := (fcd Tryz.f7 [1, 1, 1, 1, 1, 1, 1, 1, 1, 0, 1, 0, 0, 1, 1, 0, 0, 1, 1, 0, 1])) ?_
                refine V_regionX Γ Δ [29, 141] [0, 1, 2, 3, 4, 6, 7, 8, 9, 10, 11, 12, 13, 14, 15, 16, 17, 18, 19, 20, 21, 22, 25, 62, 65, 66, 67, 69, 70, 95, 109, 113, 133, 158, 168, 169, 170, 178] (evs ?_)
                all_goals (try with_reducible (repeat' (first | apply And.intro | intro _)))
                all_goals (try (first | with_reducible refine wa_id ?_ | exact True.intro | omega))
                refine V_ret (evs ?_)
                first | rfl | (simp; done) | (exfalso; exact px_neB hc (un_px hE.1 hE.2.1 hE.2.2 ‹_›)) | (have h := un_fin hm hE.1 hE.2.1 hE.2.2; first | exact h | exact ⟨h.1, h.2⟩)
              · refine WA_skip ?_
                refine V_regionX Γ Δ [29, 141] [0, 1, 2, 3, 4, 6, 7, 8, 9, 10, 11, 12, 13, 14, 15, 16, 17, 18, 19, 20, 21, 22, 25, 62, 65, 66, 67, 69, 70, 95, 109, 113, 133, 158, 168, 169, 170, 178] (evs ?_)
                all_goals (try with_reducible (repeat' (first | apply And.intro | intro _)))
                all_goals (try (first | with_reducible refine wa_id ?_ | exact True.intro | omega))
                refine V_next [] (k + 1) (evs ?_) ?_ ?_
                all_goals (try with_reducible (repeat' (first | apply And.intro | intro _)))
                all_goals (first | exact True.intro | omega | (first | exact w64l ‹(k : Int) < _› ‹(redR (nwpR m.w m.h p) l).p.length ≤ 281474976710656›))
            · refine V_exit (evs ?_)
              refine WA_seq (x := (fcd Tryz.f7 [1, 1, 1, 1, 1, 1, 1, 1, 1, 1, 0])) (y := (fcd Tryz.f7 [1, 1, 1, 1, 1, 1, 1, 1, 1, 1, 1])) ?_
              refine V_regionX Γ Δ [29, 141] [0, 1, 2, 3, 4, 6, 7, 8, 9, 10, 11, 12, 13, 14, 15, 16, 17, 18, 19, 20, 21, 22, 25, 62, 65, 66, 67, 69, 70, 95, 109, 113, 133, 158, 168, 169, 170, 178] (evs ?_)
              all_goals (try with_reducible (repeat' (first | apply And.intro | intro _)))
              all_goals (try (first | with_reducible refine wa_id ?_ | exact True.intro | exact awake_fn | omega))
              refine V_ret (evs ?_)
              first | rfl | (simp; done) | (exfalso; exact px_neB hc (un_px hE.1 hE.2.1 hE.2.2 ‹_›)) | (have h := un_fin hm hE.1 hE.2.1 hE.2.2; first | exact h | exact ⟨h.1, h.2⟩)

end Go.S35

