import Derived.Test.YtgfebadcjjifdaaA15
namespace Go.S20
open Go.RowKit Go.Proofs Go.Eng Go.Rect
set_option maxHeartbeats 4000000 in
set_option maxRecDepth 100000 in
/-- imageeditor/imageeditorlaw20.CoverParts -/
theorem l_parts (ps : List (List Pt)) (rule : Int) (r q : Rc) : Eng.Fn Try.prog 10 [.sl 1 (ps.map plyC), .i rule, rcD r, rcD q] (.dat (.b true)) := by
  refine Eng.Fn.by (fn := Try.f10) 150 [.tmp 8] Try.func10 rfl Try.ntmps10 rfl (by simp) fun w0 => ?_
  refine WA_seq (x := (fcd Try.f10 [0])) (y := (fcd Try.f10 [1])) ?_
  refine V_regionX Γ Δ [19, 41] [0, 1, 2, 3, 6, 7, 8, 9, 10, 11, 12, 13, 14, 27, 67, 69, 104, 106, 107, 108, 111, 112, 113, 147] (evs ?_)
  all_goals (try with_reducible (repeat' (first | apply And.intro | intro _)))
  all_goals (try (first | with_reducible refine wa_id ?_ | exact True.intro | omega | exact Fn.nilM 1 (sameM_fn ⟨_, _, _⟩ ⟨0, 0, []⟩) | exact meet_fn ⟨_, _, _, _⟩ ⟨_, _, _, _⟩))
  refine WA_seq (x := (fcd Try.f10 [1, 0])) (y := (fcd Try.f10 [1, 1])) ?_
  refine V_regionX Γ Δ [19, 41] [0, 1, 2, 3, 6, 7, 8, 9, 10, 11, 12, 13, 14, 27, 67, 69, 104, 106, 107, 108, 111, 112, 113, 147] (evs ?_)
  all_goals (try with_reducible (repeat' (first | apply And.intro | intro _)))
  all_goals (try (first | with_reducible refine wa_id ?_ | exact True.intro | exact cmask_fn _ _ ⟨_, _, _, _⟩ | omega | exact Fn.nilM 1 (sameM_fn ⟨_, _, _⟩ ⟨0, 0, []⟩) | exact meet_fn ⟨_, _, _, _⟩ ⟨_, _, _, _⟩))
  refine WA_seq (x := (fcd Try.f10 [1, 1, 0])) (y := (fcd Try.f10 [1, 1, 1])) ?_
  refine WA_seq (x := (fcd Try.f10 [1, 1, 0, 0])) (y := (fcd Try.f10 [1, 1, 0, 1])) ?_
  refine V_regionX Γ Δ [19, 41] [0, 1, 2, 3, 6, 7, 8, 9, 10, 11, 12, 13, 14, 27, 67, 69, 104, 106, 107, 108, 111, 112, 113, 147] (evs ?_)
  all_goals (try with_reducible (repeat' (first | apply And.intro | intro _)))
  all_goals (try (first | with_reducible refine wa_id ?_ | exact True.intro | exact awake_fn | omega | exact Fn.nilM 1 (sameM_fn ⟨_, _, _⟩ ⟨0, 0, []⟩) | exact meet_fn ⟨_, _, _, _⟩ ⟨_, _, _, _⟩))
  refine V_cond (evs ?_)
  refine ⟨fun hc => ?_, fun hc => ?_⟩
  · refine WA_seq (x := (fcd Try.f10 [1, 1, 0, 1, 0, 0])) (y := (fcd Try.f10 [1, 1, 0, 1, 0, 1])) ?_
    refine V_regionX Γ Δ [19, 41] [0, 1, 2, 3, 6, 7, 8, 9, 10, 11, 12, 13, 14, 27, 67, 69, 104, 106, 107, 108, 111, 112, 113, 147] (evs ?_)
    all_goals (try with_reducible (repeat' (first | apply And.intro | intro _)))
    all_goals (try (first | with_reducible refine wa_id ?_ | exact True.intro | exact awake_fn | exact sameM_fn ⟨_, _, _⟩ ⟨_, _, _⟩ | omega | exact Fn.nilM 1 (sameM_fn ⟨_, _, _⟩ ⟨0, 0, []⟩) | exact meet_fn ⟨_, _, _, _⟩ ⟨_, _, _, _⟩))
    refine V_ret (evs ?_)
    first | exact True.intro | (simp [mask_n0 hc, sameM]; done) | (simp [mask_em hc, sameM]; done) | (exfalso; omega) | (exfalso; simp [meet_in1] at hc; omega) | (exfalso; exact hc eQ)
  · refine WA_skip ?_
    refine WA_seq (x := (fcd Try.f10 [1, 1, 1, 0])) (y := (fcd Try.f10 [1, 1, 1, 1])) ?_
    refine V_regionX Γ Δ [19, 41] [0, 1, 2, 3, 6, 7, 8, 9, 10, 11, 12, 13, 14, 27, 67, 69, 104, 106, 107, 108, 111, 112, 113, 147] (evs ?_)
    all_goals (try with_reducible (repeat' (first | apply And.intro | intro _)))
    all_goals (try (first | with_reducible refine wa_id ?_ | exact True.intro | exact meet_fn _ _ | omega | exact Fn.nilM 1 (sameM_fn ⟨_, _, _⟩ ⟨0, 0, []⟩) | exact meet_fn ⟨_, _, _, _⟩ ⟨_, _, _, _⟩))
    refine WA_seq (x := (fcd Try.f10 [1, 1, 1, 1, 0])) (y := (fcd Try.f10 [1, 1, 1, 1, 1])) ?_
    refine V_regionX Γ Δ [19, 41] [0, 1, 2, 3, 6, 7, 8, 9, 10, 11, 12, 13, 14, 27, 67, 69, 104, 106, 107, 108, 111, 112, 113, 147] (evs ?_)
    all_goals (try with_reducible (repeat' (first | apply And.intro | intro _)))
    all_goals (try (first | with_reducible refine wa_id ?_ | exact True.intro | exact cmask_fn _ _ ⟨_, _, _, _⟩ | omega | exact Fn.nilM 1 (sameM_fn ⟨_, _, _⟩ ⟨0, 0, []⟩) | exact meet_fn ⟨_, _, _, _⟩ ⟨_, _, _, _⟩))
    refine WA_seq (x := (fcd Try.f10 [1, 1, 1, 1, 1, 0])) (y := (fcd Try.f10 [1, 1, 1, 1, 1, 1])) ?_
    refine WA_seq (x := (fcd Try.f10 [1, 1, 1, 1, 1, 0, 0])) (y := (fcd Try.f10 [1, 1, 1, 1, 1, 0, 1])) ?_
    refine V_regionX Γ Δ [19, 41] [0, 1, 2, 3, 6, 7, 8, 9, 10, 11, 12, 13, 14, 27, 67, 69, 104, 106, 107, 108, 111, 112, 113, 147] (evs ?_)
    have h0 := ‹maskE ps rule r = 0›
    have hm := cp_mask (b := q) h0
    have l1 := mask_lenE ps rule r
    have l2 := mask_lenE ps rule (meetR r q)
    simp (disch := omega) only [w64]
    all_goals (try with_reducible (repeat' (first | apply And.intro | intro _)))
    all_goals (try (first | with_reducible refine wa_id ?_ | exact True.intro | omega | exact Fn.nilM 1 (sameM_fn ⟨_, _, _⟩ ⟨0, 0, []⟩) | exact meet_fn ⟨_, _, _, _⟩ ⟨_, _, _, _⟩))
    refine V_cond (evs ?_)
    refine ⟨fun hc => ?_, fun hc => ?_⟩
    · refine WA_seq (x := (fcd Try.f10 [1, 1, 1, 1, 1, 0, 1, 0, 0])) (y := (fcd Try.f10 [1, 1, 1, 1, 1, 0, 1, 0, 1])) ?_
      refine V_regionX Γ Δ [19, 41] [0, 1, 2, 3, 6, 7, 8, 9, 10, 11, 12, 13, 14, 27, 67, 69, 104, 106, 107, 108, 111, 112, 113, 147] (evs ?_)
      all_goals (try with_reducible (repeat' (first | apply And.intro | intro _)))
      all_goals (try (first | with_reducible refine wa_id ?_ | exact True.intro | omega | exact Fn.nilM 1 (sameM_fn ⟨_, _, _⟩ ⟨0, 0, []⟩) | exact meet_fn ⟨_, _, _, _⟩ ⟨_, _, _, _⟩))
      refine V_ret (evs ?_)
      first | exact True.intro | (simp [mask_n0 hc, sameM]; done) | (simp [mask_em hc, sameM]; done) | (exfalso; omega) | (exfalso; simp [meet_in1] at hc; omega) | (exfalso; exact hc eQ)
    · refine WA_skip ?_
      refine WA_seq (x := (fcd Try.f10 [1, 1, 1, 1, 1, 1, 0])) (y := (fcd Try.f10 [1, 1, 1, 1, 1, 1, 1])) ?_
      refine WA_seq (x := (fcd Try.f10 [1, 1, 1, 1, 1, 1, 0, 0])) (y := (fcd Try.f10 [1, 1, 1, 1, 1, 1, 0, 1])) ?_
      refine V_regionX Γ Δ [19, 41] [0, 1, 2, 3, 6, 7, 8, 9, 10, 11, 12, 13, 14, 27, 67, 69, 104, 106, 107, 108, 111, 112, 113, 147] (evs ?_)
      all_goals (try with_reducible (repeat' (first | apply And.intro | intro _)))
      all_goals (try (first | with_reducible refine wa_id ?_ | exact True.intro | exact empty_fn _ | omega | exact Fn.nilM 1 (sameM_fn ⟨_, _, _⟩ ⟨0, 0, []⟩) | exact meet_fn ⟨_, _, _, _⟩ ⟨_, _, _, _⟩))
      refine V_cond (evs ?_)
      refine ⟨fun hc => ?_, fun hc => ?_⟩
      · refine WA_seq (x := (fcd Try.f10 [1, 1, 1, 1, 1, 1, 0, 1, 0, 0])) (y := (fcd Try.f10 [1, 1, 1, 1, 1, 1, 0, 1, 0, 1])) ?_
        refine V_regionX Γ Δ [19, 41] [0, 1, 2, 3, 6, 7, 8, 9, 10, 11, 12, 13, 14, 27, 67, 69, 104, 106, 107, 108, 111, 112, 113, 147] (evs ?_)
        all_goals (try with_reducible (repeat' (first | apply And.intro | intro _)))
        all_goals (try (first | with_reducible refine wa_id ?_ | exact True.intro | exact sameM_fn ⟨_, _, _⟩ ⟨_, _, _⟩ | omega | exact Fn.nilM 1 (sameM_fn ⟨_, _, _⟩ ⟨0, 0, []⟩) | exact meet_fn ⟨_, _, _, _⟩ ⟨_, _, _, _⟩))
        refine V_ret (evs ?_)
        first | exact True.intro | (simp [mask_n0 hc, sameM]; done) | (simp [mask_em hc, sameM]; done) | (exfalso; omega) | (exfalso; simp [meet_in1] at hc; omega) | (exfalso; exact hc eQ)
      · refine WA_skip ?_
        refine WA_seq (x := (fcd Try.f10 [1, 1, 1, 1, 1, 1, 1, 0])) (y := (fcd Try.f10 [1, 1, 1, 1, 1, 1, 1, 1])) ?_
        refine WA_seq (x := (fcd Try.f10 [1, 1, 1, 1, 1, 1, 1, 0, 0])) (y := (fcd Try.f10 [1, 1, 1, 1, 1, 1, 1, 0, 1])) ?_
        refine V_regionX Γ Δ [19, 41] [0, 1, 2, 3, 6, 7, 8, 9, 10, 11, 12, 13, 14, 27, 67, 69, 104, 106, 107, 108, 111, 112, 113, 147] (evs ?_)
        have he := ‹emptyB (meetR r q) = false›
        have h1 := meet_ne he
        have k1 := mask_ok hm he
        have k2 := mask_ok h0 h1
        have hs := area_sz (maskE_0 hm).2 he
        have hr := area_sz (maskE_0 h0).2 h1
        all_goals (try with_reducible (repeat' (first | apply And.intro | intro _)))
        all_goals (try (first | with_reducible refine wa_id ?_ | exact True.intro | exact within_fn _ _ | omega | exact Fn.nilM 1 (sameM_fn ⟨_, _, _⟩ ⟨0, 0, []⟩) | exact meet_fn ⟨_, _, _, _⟩ ⟨_, _, _, _⟩))
        refine V_cond (evs ?_)
        refine ⟨fun hc => ?_, fun hc => ?_⟩
        · refine WA_seq (x := (fcd Try.f10 [1, 1, 1, 1, 1, 1, 1, 0, 1, 0, 0])) (y := (fcd Try.f10 [1, 1, 1, 1, 1, 1, 1, 0, 1, 0, 1])) ?_
          refine V_regionX Γ Δ [19, 41] [0, 1, 2, 3, 6, 7, 8, 9, 10, 11, 12, 13, 14, 27, 67, 69, 104, 106, 107, 108, 111, 112, 113, 147] (evs ?_)
          all_goals (try with_reducible (repeat' (first | apply And.intro | intro _)))
          all_goals (try (first | with_reducible refine wa_id ?_ | exact True.intro | omega | exact Fn.nilM 1 (sameM_fn ⟨_, _, _⟩ ⟨0, 0, []⟩) | exact meet_fn ⟨_, _, _, _⟩ ⟨_, _, _, _⟩))
          refine V_ret (evs ?_)
          first | exact True.intro | (simp [mask_n0 hc, sameM]; done) | (simp [mask_em hc, sameM]; done) | (exfalso; omega) | (exfalso; simp [meet_in1] at hc; omega) | (exfalso; exact hc eQ)
        · refine WA_skip ?_
          refine WA_seq (x := (fcd Try.f10 [1, 1, 1, 1, 1, 1, 1, 1, 0])) (y := (fcd Try.f10 [1, 1, 1, 1, 1, 1, 1, 1, 1])) ?_
          refine WA_seq (x := (fcd Try.f10 [1, 1, 1, 1, 1, 1, 1, 1, 0, 0])) (y := (fcd Try.f10 [1, 1, 1, 1, 1, 1, 1, 1, 0, 1])) ?_
          refine V_regionX Γ Δ [19, 41] [0, 1, 2, 3, 6, 7, 8, 9, 10, 11, 12, 13, 14, 27, 67, 69, 104, 106, 107, 108, 111, 112, 113, 147] (evs ?_)
          all_goals (try with_reducible (repeat' (first | apply And.intro | intro _)))
          all_goals (try (first | with_reducible refine wa_id ?_ | exact True.intro | omega | exact Fn.nilM 1 (sameM_fn ⟨_, _, _⟩ ⟨0, 0, []⟩) | exact meet_fn ⟨_, _, _, _⟩ ⟨_, _, _, _⟩))
          refine WA_block (c := (fcd Try.f10 [1, 1, 1, 1, 1, 1, 1, 1, 0, 1, 0])) ?_
          refine V_loop (c := (fcd Try.f10 [1, 1, 1, 1, 1, 1, 1, 1, 0, 1, 0, 0])) (α := Nat) [8, 13, 14, 107, 108, 111, 112, 113, 147] [] (fun y => [(107, .dat (.i (y : Int)))]) (fun y => []) (fun y => y ≤ (meetR r q).h.toNat) (fun y => (meetR r q).h.toNat - y) 0 [] ?_ (evs ?_) ?_
          · exact Nat.zero_le _
          · (try with_reducible (repeat' (first | apply And.intro | intro _)))
            all_goals (first | exact True.intro | omega | (first | rfl))
          · intro y hY
            refine WA_seq (x := (fcd Try.f10 [1, 1, 1, 1, 1, 1, 1, 1, 0, 1, 0, 0, 0])) (y := (fcd Try.f10 [1, 1, 1, 1, 1, 1, 1, 1, 0, 1, 0, 0, 1])) ?_
            refine V_regionX Γ Δ [19, 41] [0, 1, 2, 3, 6, 7, 8, 9, 10, 11, 12, 13, 14, 27, 67, 69, 104, 106, 107, 108, 111, 112, 113, 147] (evs ?_)
            all_goals (try with_reducible (repeat' (first | apply And.intro | intro _)))
            all_goals (try (first | with_reducible refine wa_id ?_ | exact True.intro | omega | exact Fn.nilM 1 (sameM_fn ⟨_, _, _⟩ ⟨0, 0, []⟩) | exact meet_fn ⟨_, _, _, _⟩ ⟨_, _, _, _⟩))
            refine WA_seq (x := (fcd Try.f10 [1, 1, 1, 1, 1, 1, 1, 1, 0, 1, 0, 0, 1, 0])) (y := (fcd Try.f10 [1, 1, 1, 1, 1, 1, 1, 1, 0, 1, 0, 0, 1, 1])) ?_
            refine V_cond (evs ?_)
            refine ⟨fun hc => ?_, fun hc => ?_⟩
            · refine WA_skip ?_
              refine WA_seq (x := (fcd Try.f10 [1, 1, 1, 1, 1, 1, 1, 1, 0, 1, 0, 0, 1, 1, 0])) (y := (fcd Try.f10 [1, 1, 1, 1, 1, 1, 1, 1, 0, 1, 0, 0, 1, 1, 1])) ?_
              refine WA_block (c := (fcd Try.f10 [1, 1, 1, 1, 1, 1, 1, 1, 0, 1, 0, 0, 1, 1, 0, 0])) ?_
              refine WA_seq (x := (fcd Try.f10 [1, 1, 1, 1, 1, 1, 1, 1, 0, 1, 0, 0, 1, 1, 0, 0, 0])) (y := (fcd Try.f10 [1, 1, 1, 1, 1, 1, 1, 1, 0, 1, 0, 0, 1, 1, 0, 0, 1])) ?_
              refine V_regionX Γ Δ [19, 41] [0, 1, 2, 3, 6, 7, 8, 9, 10, 11, 12, 13, 14, 27, 67, 69, 104, 106, 107, 108, 111, 112, 113, 147] (evs ?_)
              all_goals (try with_reducible (repeat' (first | apply And.intro | intro _)))
              all_goals (try (first | with_reducible refine wa_id ?_ | exact True.intro | omega | exact Fn.nilM 1 (sameM_fn ⟨_, _, _⟩ ⟨0, 0, []⟩) | exact meet_fn ⟨_, _, _, _⟩ ⟨_, _, _, _⟩))
              refine WA_seq (x := (fcd Try.f10 [1, 1, 1, 1, 1, 1, 1, 1, 0, 1, 0, 0, 1, 1, 0, 0, 1, 0])) (y := (fcd Try.f10 [1, 1, 1, 1, 1, 1, 1, 1, 0, 1, 0, 0, 1, 1, 0, 0, 1, 1])) ?_
              refine V_regionX Γ Δ [19, 41] [0, 1, 2, 3, 6, 7, 8, 9, 10, 11, 12, 13, 14, 27, 67, 69, 104, 106, 107, 108, 111, 112, 113, 147] (evs ?_)
              all_goals (try with_reducible (repeat' (first | apply And.intro | intro _)))
              all_goals (try (first | with_reducible refine wa_id ?_ | exact True.intro | omega | exact Fn.nilM 1 (sameM_fn ⟨_, _, _⟩ ⟨0, 0, []⟩) | exact meet_fn ⟨_, _, _, _⟩ ⟨_, _, _, _⟩))
              refine WA_block (c := (fcd Try.f10 [1, 1, 1, 1, 1, 1, 1, 1, 0, 1, 0, 0, 1, 1, 0, 0, 1, 1, 0])) ?_
              refine V_loop (c := (fcd Try.f10 [1, 1, 1, 1, 1, 1, 1, 1, 0, 1, 0, 0, 1, 1, 0, 0, 1, 1, 0, 0])) (α := Nat) [8, 14, 112, 113, 147] [] (fun x => [(112, .dat (.i (x : Int)))]) (fun x => []) (fun x => x ≤ (meetR r q).w.toNat) (fun x => (meetR r q).w.toNat - x) 0 [] ?_ (evs ?_) ?_
              · exact Nat.zero_le _
              · (try with_reducible (repeat' (first | apply And.intro | intro _)))
                all_goals (first | exact True.intro | omega | (first | rfl))
              · intro x hX
                refine WA_seq (x := (fcd Try.f10 [1, 1, 1, 1, 1, 1, 1, 1, 0, 1, 0, 0, 1, 1, 0, 0, 1, 1, 0, 0, 0])) (y := (fcd Try.f10 [1, 1, 1, 1, 1, 1, 1, 1, 0, 1, 0, 0, 1, 1, 0, 0, 1, 1, 0, 0, 1])) ?_
                refine V_regionX Γ Δ [19, 41] [0, 1, 2, 3, 6, 7, 8, 9, 10, 11, 12, 13, 14, 27, 67, 69, 104, 106, 107, 108, 111, 112, 113, 147] (evs ?_)
                all_goals (try with_reducible (repeat' (first | apply And.intro | intro _)))
                all_goals (try (first | with_reducible refine wa_id ?_ | exact True.intro | omega | exact Fn.nilM 1 (sameM_fn ⟨_, _, _⟩ ⟨0, 0, []⟩) | exact meet_fn ⟨_, _, _, _⟩ ⟨_, _, _, _⟩))
                refine WA_seq (x := (fcd Try.f10 [1, 1, 1, 1, 1, 1, 1, 1, 0, 1, 0, 0, 1, 1, 0, 0, 1, 1, 0, 0, 1, 0])) (y := (fcd Try.f10 [1, 1, 1, 1, 1, 1, 1, 1, 0, 1, 0, 0, 1, 1, 0, 0, 1, 1, 0, 0, 1, 1])) ?_
                refine V_cond (evs ?_)
                refine ⟨fun hc => ?_, fun hc => ?_⟩
                · refine WA_skip ?_
                  refine WA_seq (x := (fcd Try.f10 [1, 1, 1, 1, 1, 1, 1, 1, 0, 1, 0, 0, 1, 1, 0, 0, 1, 1, 0, 0, 1, 1, 0])) (y := (fcd Try.f10 [1, 1, 1, 1, 1, 1, 1, 1, 0, 1, 0, 0, 1, 1, 0, 0, 1, 1, 0, 0, 1, 1, 1])) ?_
                  refine WA_block (c := (fcd Try.f10 [1, 1, 1, 1, 1, 1, 1, 1, 0, 1, 0, 0, 1, 1, 0, 0, 1, 1, 0, 0, 1, 1, 0, 0])) ?_
                  refine WA_seq (x := (fcd Try.f10 [1, 1, 1, 1, 1, 1, 1, 1, 0, 1, 0, 0, 1, 1, 0, 0, 1, 1, 0, 0, 1, 1, 0, 0, 0])) (y := (fcd Try.f10 [1, 1, 1, 1, 1, 1, 1, 1, 0, 1, 0, 0, 1, 1, 0, 0, 1, 1, 0, 0, 1, 1, 0, 0, 1])) ?_
                  refine V_regionX Γ Δ [19, 41] [0, 1, 2, 3, 6, 7, 8, 9, 10, 11, 12, 13, 14, 27, 67, 69, 104, 106, 107, 108, 111, 112, 113, 147] (evs ?_)
                  all_goals (try with_reducible (repeat' (first | apply And.intro | intro _)))
                  all_goals (try (first | with_reducible refine wa_id ?_ | exact True.intro | omega | exact Fn.nilM 1 (sameM_fn ⟨_, _, _⟩ ⟨0, 0, []⟩) | exact meet_fn ⟨_, _, _, _⟩ ⟨_, _, _, _⟩))
                  refine WA_seq (x := (fcd Try.f10 [1, 1, 1, 1, 1, 1, 1, 1, 0, 1, 0, 0, 1, 1, 0, 0, 1, 1, 0, 0, 1, 1, 0, 0, 1, 0])) (y := (fcd Try.f10 [1, 1, 1, 1, 1, 1, 1, 1, 0, 1, 0, 0, 1, 1, 0, 0, 1, 1, 0, 0, 1, 1, 0, 0, 1, 1])) ?_
                  refine V_draw Γ [19, 41] [0, 1, 2, 3, 6, 7, 8, 9, 10, 11, 12, 13, 14, 27, 67, 69, 104, 106, 107, 108, 111, 112, 113, 147] mixed (by kernel_rfl) (evs ?_)
                  obtain ⟨i, i1, i2, i3, i4, i5, j, j1, j2, j3, j4, j5, eQ⟩ := cp_at h0 he ‹(y : Int) < _› ‹(x : Int) < _›
                  simp only [k1.1, k2.1]
                  simp (disch := omega) only [w64]
                  simp only [i1, j1, Int.toNat_natCast]
                  all_goals (try with_reducible (repeat' (first | apply And.intro | intro _)))
                  all_goals (try (first | with_reducible refine wa_id ?_ | exact True.intro | omega | exact Fn.nilM 1 (sameM_fn ⟨_, _, _⟩ ⟨0, 0, []⟩) | exact meet_fn ⟨_, _, _, _⟩ ⟨_, _, _, _⟩))
                  refine V_cond (evs ?_)
                  refine ⟨fun hc => ?_, fun hc => ?_⟩
                  · refine WA_seq (x := (fcd Try.f10 [1, 1, 1, 1, 1, 1, 1, 1, 0, 1, 0, 0, 1, 1, 0, 0, 1, 1, 0, 0, 1, 1, 0, 0, 1, 1, 0, 0])) (y := (fcd Try.f10 [1, 1, 1, 1, 1, 1, 1, 1, 0, 1, 0, 0, 1, 1, 0, 0, 1, 1, 0, 0, 1, 1, 0, 0, 1, 1, 0, 1])) ?_
                    refine V_regionX Γ Δ [19, 41] [0, 1, 2, 3, 6, 7, 8, 9, 10, 11, 12, 13, 14, 27, 67, 69, 104, 106, 107, 108, 111, 112, 113, 147] (evs ?_)
                    all_goals (try with_reducible (repeat' (first | apply And.intro | intro _)))
                    all_goals (try (first | with_reducible refine wa_id ?_ | exact True.intro | omega | exact Fn.nilM 1 (sameM_fn ⟨_, _, _⟩ ⟨0, 0, []⟩) | exact meet_fn ⟨_, _, _, _⟩ ⟨_, _, _, _⟩))
                    refine V_ret (evs ?_)
                    first | exact True.intro | (simp [mask_n0 hc, sameM]; done) | (simp [mask_em hc, sameM]; done) | (exfalso; omega) | (exfalso; simp [meet_in1] at hc; omega) | (exfalso; exact hc eQ)
                  · refine WA_skip ?_
                    refine V_regionX Γ Δ [19, 41] [0, 1, 2, 3, 6, 7, 8, 9, 10, 11, 12, 13, 14, 27, 67, 69, 104, 106, 107, 108, 111, 112, 113, 147] (evs ?_)
                    all_goals (try with_reducible (repeat' (first | apply And.intro | intro _)))
                    all_goals (try (first | with_reducible refine wa_id ?_ | exact True.intro | omega | exact Fn.nilM 1 (sameM_fn ⟨_, _, _⟩ ⟨0, 0, []⟩) | exact meet_fn ⟨_, _, _, _⟩ ⟨_, _, _, _⟩))
                    refine V_next [] (x + 1) (evs ?_) ?_ ?_
                    all_goals (try with_reducible (repeat' (first | apply And.intro | intro _)))
                    all_goals (first | exact True.intro | omega | (first | exact w64l (n := 256) (by omega) (by omega)))
                · refine V_exit (evs ?_)
                  refine V_regionX Γ Δ [19, 41] [0, 1, 2, 3, 6, 7, 8, 9, 10, 11, 12, 13, 14, 27, 67, 69, 104, 106, 107, 108, 111, 112, 113, 147] (evs ?_)
                  all_goals (try with_reducible (repeat' (first | apply And.intro | intro _)))
                  all_goals (try (first | with_reducible refine wa_id ?_ | exact True.intro | omega | exact Fn.nilM 1 (sameM_fn ⟨_, _, _⟩ ⟨0, 0, []⟩) | exact meet_fn ⟨_, _, _, _⟩ ⟨_, _, _, _⟩))
                  refine V_next [] (y + 1) (evs ?_) ?_ ?_
                  all_goals (try with_reducible (repeat' (first | apply And.intro | intro _)))
                  all_goals (first | exact True.intro | omega | (first | exact w64l (n := 256) (by omega) (by omega)))
            · refine V_exit (evs ?_)
              refine WA_seq (x := (fcd Try.f10 [1, 1, 1, 1, 1, 1, 1, 1, 1, 0])) (y := (fcd Try.f10 [1, 1, 1, 1, 1, 1, 1, 1, 1, 1])) ?_
              refine V_regionX Γ Δ [19, 41] [0, 1, 2, 3, 6, 7, 8, 9, 10, 11, 12, 13, 14, 27, 67, 69, 104, 106, 107, 108, 111, 112, 113, 147] (evs ?_)
              all_goals (try with_reducible (repeat' (first | apply And.intro | intro _)))
              all_goals (try (first | with_reducible refine wa_id ?_ | exact True.intro | omega | exact Fn.nilM 1 (sameM_fn ⟨_, _, _⟩ ⟨0, 0, []⟩) | exact meet_fn ⟨_, _, _, _⟩ ⟨_, _, _, _⟩))
              refine V_ret (evs ?_)
              first | exact True.intro | (simp [mask_n0 hc, sameM]; done) | (simp [mask_em hc, sameM]; done) | (exfalso; omega) | (exfalso; simp [meet_in1] at hc; omega) | (exfalso; exact hc eQ)

end Go.S20

