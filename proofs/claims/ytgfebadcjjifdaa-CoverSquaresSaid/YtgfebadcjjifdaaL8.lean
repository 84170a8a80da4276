import Derived.Test.YtgfebadcjjifdaaA15
namespace Go.S20
open Go.RowKit Go.Proofs Go.Eng Go.Rect
set_option maxHeartbeats 4000000 in
set_option maxRecDepth 100000 in
/-- imageeditor/imageeditorlaw20.CoverSquares -/
theorem l_squares (a b c d : Int) (r : Rc) (ha : 0 ≤ a ∧ a ≤ 255) (hb : 0 ≤ b ∧ b ≤ 255) (hc : 0 ≤ c ∧ c ≤ 255) (hd : 0 ≤ d ∧ d ≤ 255) : Eng.Fn Try.prog 8 [.v (.int .u8 a), .v (.int .u8 b), .v (.int .u8 c), .v (.int .u8 d), rcD r] (.dat (.b true)) := by
  refine Eng.Fn.by (fn := Try.f8) 163 [.tmp 10] Try.func8 rfl Try.ntmps8 rfl (by simp) fun w0 => ?_
  refine WA_seq (x := (fcd Try.f8 [0])) (y := (fcd Try.f8 [1])) ?_
  refine V_regionX Γ Δ [41, 42, 46] [0, 1, 2, 3, 4, 9, 10, 11, 12, 13, 14, 15, 16, 17, 18, 19, 20, 21, 22, 23, 24, 54, 62, 88, 92, 93, 94, 95, 161] (evs ?_)
  all_goals (try with_reducible (repeat' (first | apply And.intro | intro _)))
  all_goals (try (first | with_reducible refine wa_id ?_ | exact True.intro | omega | exact Fn.nilM 1 (sameM_fn ⟨_, _, _⟩ ⟨0, 0, []⟩) | exact cmask_fn [squareL _ _ _ _] _ ⟨_, _, _, _⟩ | exact cbox_fn [squareL _ _ _ _]))
  refine WA_seq (x := (fcd Try.f8 [1, 0])) (y := (fcd Try.f8 [1, 1])) ?_
  refine V_regionX Γ Δ [41, 42, 46] [0, 1, 2, 3, 4, 9, 10, 11, 12, 13, 14, 15, 16, 17, 18, 19, 20, 21, 22, 23, 24, 54, 62, 88, 92, 93, 94, 95, 161] (evs ?_)
  simp (disch := omega) only [w64]
  all_goals (try with_reducible (repeat' (first | apply And.intro | intro _)))
  all_goals (try (first | with_reducible refine wa_id ?_ | exact True.intro | omega | exact Fn.nilM 1 (sameM_fn ⟨_, _, _⟩ ⟨0, 0, []⟩) | exact cmask_fn [squareL _ _ _ _] _ ⟨_, _, _, _⟩ | exact cbox_fn [squareL _ _ _ _]))
  refine WA_seq (x := (fcd Try.f8 [1, 1, 0])) (y := (fcd Try.f8 [1, 1, 1])) ?_
  refine V_regionX Γ Δ [41, 42, 46] [0, 1, 2, 3, 4, 9, 10, 11, 12, 13, 14, 15, 16, 17, 18, 19, 20, 21, 22, 23, 24, 54, 62, 88, 92, 93, 94, 95, 161] (evs ?_)
  have hA := tm200 ha
  generalize a.tmod 200 = A at hA ⊢
  have hB := tm200 hb
  generalize b.tmod 200 = B at hB ⊢
  have hC := tm200 hc
  generalize c.tmod 200 = C at hC ⊢
  have hE := tm200 hd
  generalize d.tmod 200 = E at hE ⊢
  all_goals (try with_reducible (repeat' (first | apply And.intro | intro _)))
  all_goals (try (first | with_reducible refine wa_id ?_ | exact True.intro | exact square_fn _ _ _ _ | omega | exact Fn.nilM 1 (sameM_fn ⟨_, _, _⟩ ⟨0, 0, []⟩) | exact cmask_fn [squareL _ _ _ _] _ ⟨_, _, _, _⟩ | exact cbox_fn [squareL _ _ _ _]))
  refine WA_seq (x := (fcd Try.f8 [1, 1, 1, 0])) (y := (fcd Try.f8 [1, 1, 1, 1])) ?_
  refine V_regionX Γ Δ [41, 42, 46] [0, 1, 2, 3, 4, 9, 10, 11, 12, 13, 14, 15, 16, 17, 18, 19, 20, 21, 22, 23, 24, 54, 62, 88, 92, 93, 94, 95, 161] (evs ?_)
  all_goals (try with_reducible (repeat' (first | apply And.intro | intro _)))
  all_goals (try (first | with_reducible refine wa_id ?_ | exact True.intro | exact cmask_fn _ _ ⟨_, _, _, _⟩ | omega | exact Fn.nilM 1 (sameM_fn ⟨_, _, _⟩ ⟨0, 0, []⟩) | exact cmask_fn [squareL _ _ _ _] _ ⟨_, _, _, _⟩ | exact cbox_fn [squareL _ _ _ _]))
  refine WA_seq (x := (fcd Try.f8 [1, 1, 1, 1, 0])) (y := (fcd Try.f8 [1, 1, 1, 1, 1])) ?_
  refine WA_seq (x := (fcd Try.f8 [1, 1, 1, 1, 0, 0])) (y := (fcd Try.f8 [1, 1, 1, 1, 0, 1])) ?_
  refine V_regionX Γ Δ [41, 42, 46] [0, 1, 2, 3, 4, 9, 10, 11, 12, 13, 14, 15, 16, 17, 18, 19, 20, 21, 22, 23, 24, 54, 62, 88, 92, 93, 94, 95, 161] (evs ?_)
  all_goals (try with_reducible (repeat' (first | apply And.intro | intro _)))
  all_goals (try (first | with_reducible refine wa_id ?_ | exact True.intro | exact awake_fn | omega | exact Fn.nilM 1 (sameM_fn ⟨_, _, _⟩ ⟨0, 0, []⟩) | exact cmask_fn [squareL _ _ _ _] _ ⟨_, _, _, _⟩ | exact cbox_fn [squareL _ _ _ _]))
  refine V_cond (evs ?_)
  refine ⟨fun hc => ?_, fun hc => ?_⟩
  · refine WA_seq (x := (fcd Try.f8 [1, 1, 1, 1, 0, 1, 0, 0])) (y := (fcd Try.f8 [1, 1, 1, 1, 0, 1, 0, 1])) ?_
    refine V_regionX Γ Δ [41, 42, 46] [0, 1, 2, 3, 4, 9, 10, 11, 12, 13, 14, 15, 16, 17, 18, 19, 20, 21, 22, 23, 24, 54, 62, 88, 92, 93, 94, 95, 161] (evs ?_)
    all_goals (try with_reducible (repeat' (first | apply And.intro | intro _)))
    all_goals (try (first | with_reducible refine wa_id ?_ | exact True.intro | exact awake_fn | exact sameM_fn ⟨_, _, _⟩ ⟨_, _, _⟩ | omega | exact Fn.nilM 1 (sameM_fn ⟨_, _, _⟩ ⟨0, 0, []⟩) | exact cmask_fn [squareL _ _ _ _] _ ⟨_, _, _, _⟩ | exact cbox_fn [squareL _ _ _ _]))
    refine V_ret (evs ?_)
    first | exact True.intro | (simp [mask_n0 hc, sameM]; done) | (simp [mask_em hc, sameM]; done) | (exfalso; omega) | exact absurd ((sq_has hA hB hC hE hc.1).symm.trans hc.2) (by decide)
  · refine WA_skip ?_
    refine WA_seq (x := (fcd Try.f8 [1, 1, 1, 1, 1, 0])) (y := (fcd Try.f8 [1, 1, 1, 1, 1, 1])) ?_
    refine WA_seq (x := (fcd Try.f8 [1, 1, 1, 1, 1, 0, 0])) (y := (fcd Try.f8 [1, 1, 1, 1, 1, 0, 1])) ?_
    refine V_regionX Γ Δ [41, 42, 46] [0, 1, 2, 3, 4, 9, 10, 11, 12, 13, 14, 15, 16, 17, 18, 19, 20, 21, 22, 23, 24, 54, 62, 88, 92, 93, 94, 95, 161] (evs ?_)
    all_goals (try with_reducible (repeat' (first | apply And.intro | intro _)))
    all_goals (try (first | with_reducible refine wa_id ?_ | exact True.intro | exact empty_fn _ | omega | exact Fn.nilM 1 (sameM_fn ⟨_, _, _⟩ ⟨0, 0, []⟩) | exact cmask_fn [squareL _ _ _ _] _ ⟨_, _, _, _⟩ | exact cbox_fn [squareL _ _ _ _]))
    refine V_cond (evs ?_)
    refine ⟨fun hc => ?_, fun hc => ?_⟩
    · refine WA_seq (x := (fcd Try.f8 [1, 1, 1, 1, 1, 0, 1, 0, 0])) (y := (fcd Try.f8 [1, 1, 1, 1, 1, 0, 1, 0, 1])) ?_
      refine V_regionX Γ Δ [41, 42, 46] [0, 1, 2, 3, 4, 9, 10, 11, 12, 13, 14, 15, 16, 17, 18, 19, 20, 21, 22, 23, 24, 54, 62, 88, 92, 93, 94, 95, 161] (evs ?_)
      all_goals (try with_reducible (repeat' (first | apply And.intro | intro _)))
      all_goals (try (first | with_reducible refine wa_id ?_ | exact True.intro | exact sameM_fn ⟨_, _, _⟩ ⟨_, _, _⟩ | omega | exact Fn.nilM 1 (sameM_fn ⟨_, _, _⟩ ⟨0, 0, []⟩) | exact cmask_fn [squareL _ _ _ _] _ ⟨_, _, _, _⟩ | exact cbox_fn [squareL _ _ _ _]))
      refine V_ret (evs ?_)
      first | exact True.intro | (simp [mask_n0 hc, sameM]; done) | (simp [mask_em hc, sameM]; done) | (exfalso; omega) | exact absurd ((sq_has hA hB hC hE hc.1).symm.trans hc.2) (by decide)
    · refine WA_skip ?_
      refine WA_seq (x := (fcd Try.f8 [1, 1, 1, 1, 1, 1, 0])) (y := (fcd Try.f8 [1, 1, 1, 1, 1, 1, 1])) ?_
      refine WA_seq (x := (fcd Try.f8 [1, 1, 1, 1, 1, 1, 0, 0])) (y := (fcd Try.f8 [1, 1, 1, 1, 1, 1, 0, 1])) ?_
      refine V_regionX Γ Δ [41, 42, 46] [0, 1, 2, 3, 4, 9, 10, 11, 12, 13, 14, 15, 16, 17, 18, 19, 20, 21, 22, 23, 24, 54, 62, 88, 92, 93, 94, 95, 161] (evs ?_)
      have h0 := ‹maskE [squareL A B C E] 0 r = 0›
      have he := ‹emptyB r = false›
      have k1 := mask_ok h0 he
      have hs := area_sz (maskE_0 h0).2 he
      have l1 := mask_lenE [squareL A B C E] 0 r
      simp (disch := omega) only [w64]
      all_goals (try with_reducible (repeat' (first | apply And.intro | intro _)))
      all_goals (try (first | with_reducible refine wa_id ?_ | exact True.intro | omega | exact Fn.nilM 1 (sameM_fn ⟨_, _, _⟩ ⟨0, 0, []⟩) | exact cmask_fn [squareL _ _ _ _] _ ⟨_, _, _, _⟩ | exact cbox_fn [squareL _ _ _ _]))
      refine V_cond (evs ?_)
      refine ⟨fun hc => ?_, fun hc => ?_⟩
      · refine WA_seq (x := (fcd Try.f8 [1, 1, 1, 1, 1, 1, 0, 1, 0, 0])) (y := (fcd Try.f8 [1, 1, 1, 1, 1, 1, 0, 1, 0, 1])) ?_
        refine V_regionX Γ Δ [41, 42, 46] [0, 1, 2, 3, 4, 9, 10, 11, 12, 13, 14, 15, 16, 17, 18, 19, 20, 21, 22, 23, 24, 54, 62, 88, 92, 93, 94, 95, 161] (evs ?_)
        all_goals (try with_reducible (repeat' (first | apply And.intro | intro _)))
        all_goals (try (first | with_reducible refine wa_id ?_ | exact True.intro | omega | exact Fn.nilM 1 (sameM_fn ⟨_, _, _⟩ ⟨0, 0, []⟩) | exact cmask_fn [squareL _ _ _ _] _ ⟨_, _, _, _⟩ | exact cbox_fn [squareL _ _ _ _]))
        refine V_ret (evs ?_)
        first | exact True.intro | (simp [mask_n0 hc, sameM]; done) | (simp [mask_em hc, sameM]; done) | (exfalso; omega) | exact absurd ((sq_has hA hB hC hE hc.1).symm.trans hc.2) (by decide)
      · refine WA_skip ?_
        refine WA_seq (x := (fcd Try.f8 [1, 1, 1, 1, 1, 1, 1, 0])) (y := (fcd Try.f8 [1, 1, 1, 1, 1, 1, 1, 1])) ?_
        refine V_regionX Γ Δ [41, 42, 46] [0, 1, 2, 3, 4, 9, 10, 11, 12, 13, 14, 15, 16, 17, 18, 19, 20, 21, 22, 23, 24, 54, 62, 88, 92, 93, 94, 95, 161] (evs ?_)
        all_goals (try with_reducible (repeat' (first | apply And.intro | intro _)))
        all_goals (try (first | with_reducible refine wa_id ?_ | exact True.intro | exact cbox_fn _ | omega | exact Fn.nilM 1 (sameM_fn ⟨_, _, _⟩ ⟨0, 0, []⟩) | exact cmask_fn [squareL _ _ _ _] _ ⟨_, _, _, _⟩ | exact cbox_fn [squareL _ _ _ _]))
        refine WA_seq (x := (fcd Try.f8 [1, 1, 1, 1, 1, 1, 1, 1, 0])) (y := (fcd Try.f8 [1, 1, 1, 1, 1, 1, 1, 1, 1])) ?_
        refine WA_seq (x := (fcd Try.f8 [1, 1, 1, 1, 1, 1, 1, 1, 0, 0])) (y := (fcd Try.f8 [1, 1, 1, 1, 1, 1, 1, 1, 0, 1])) ?_
        refine V_regionX Γ Δ [41, 42, 46] [0, 1, 2, 3, 4, 9, 10, 11, 12, 13, 14, 15, 16, 17, 18, 19, 20, 21, 22, 23, 24, 54, 62, 88, 92, 93, 94, 95, 161] (evs ?_)
        all_goals (try with_reducible (repeat' (first | apply And.intro | intro _)))
        all_goals (try (first | with_reducible refine wa_id ?_ | exact True.intro | omega | exact Fn.nilM 1 (sameM_fn ⟨_, _, _⟩ ⟨0, 0, []⟩) | exact cmask_fn [squareL _ _ _ _] _ ⟨_, _, _, _⟩ | exact cbox_fn [squareL _ _ _ _]))
        refine WA_block (c := (fcd Try.f8 [1, 1, 1, 1, 1, 1, 1, 1, 0, 1, 0])) ?_
        refine V_loop (c := (fcd Try.f8 [1, 1, 1, 1, 1, 1, 1, 1, 0, 1, 0, 0])) (α := Nat) [10, 19, 20, 21, 22, 23, 24, 94, 95, 161] [24800, 24801, 24802, 24803, 25800, 25801, 25802, 25803] (fun k => [(94, .dat (.i (k : Int)))]) (fun k => []) (fun k => k ≤ (maskR [squareL A B C E] 0 r).v.length) (fun k => (maskR [squareL A B C E] 0 r).v.length - k) 0 [] ?_ (evs ?_) ?_
        · exact Nat.zero_le _
        · (try with_reducible (repeat' (first | apply And.intro | intro _)))
          all_goals (first | exact True.intro | omega | (first | rfl))
        · intro k hI
          refine WA_seq (x := (fcd Try.f8 [1, 1, 1, 1, 1, 1, 1, 1, 0, 1, 0, 0, 0])) (y := (fcd Try.f8 [1, 1, 1, 1, 1, 1, 1, 1, 0, 1, 0, 0, 1])) ?_
          refine V_regionX Γ Δ [41, 42, 46] [0, 1, 2, 3, 4, 9, 10, 11, 12, 13, 14, 15, 16, 17, 18, 19, 20, 21, 22, 23, 24, 54, 62, 88, 92, 93, 94, 95, 161] (evs ?_)
          all_goals (try with_reducible (repeat' (first | apply And.intro | intro _)))
          all_goals (try (first | with_reducible refine wa_id ?_ | exact True.intro | omega | exact Fn.nilM 1 (sameM_fn ⟨_, _, _⟩ ⟨0, 0, []⟩) | exact cmask_fn [squareL _ _ _ _] _ ⟨_, _, _, _⟩ | exact cbox_fn [squareL _ _ _ _]))
          refine WA_seq (x := (fcd Try.f8 [1, 1, 1, 1, 1, 1, 1, 1, 0, 1, 0, 0, 1, 0])) (y := (fcd Try.f8 [1, 1, 1, 1, 1, 1, 1, 1, 0, 1, 0, 0, 1, 1])) ?_
          refine V_cond (evs ?_)
          refine ⟨fun hc => ?_, fun hc => ?_⟩
          · refine WA_skip ?_
            refine WA_seq (x := (fcd Try.f8 [1, 1, 1, 1, 1, 1, 1, 1, 0, 1, 0, 0, 1, 1, 0])) (y := (fcd Try.f8 [1, 1, 1, 1, 1, 1, 1, 1, 0, 1, 0, 0, 1, 1, 1])) ?_
            refine WA_block (c := (fcd Try.f8 [1, 1, 1, 1, 1, 1, 1, 1, 0, 1, 0, 0, 1, 1, 0, 0])) ?_
            refine WA_seq (x := (fcd Try.f8 [1, 1, 1, 1, 1, 1, 1, 1, 0, 1, 0, 0, 1, 1, 0, 0, 0])) (y := (fcd Try.f8 [1, 1, 1, 1, 1, 1, 1, 1, 0, 1, 0, 0, 1, 1, 0, 0, 1])) ?_
            refine V_regionX Γ Δ [41, 42, 46] [0, 1, 2, 3, 4, 9, 10, 11, 12, 13, 14, 15, 16, 17, 18, 19, 20, 21, 22, 23, 24, 54, 62, 88, 92, 93, 94, 95, 161] (evs ?_)
            all_goals (try with_reducible (repeat' (first | apply And.intro | intro _)))
            all_goals (try (first | with_reducible refine wa_id ?_ | exact True.intro | omega | exact Fn.nilM 1 (sameM_fn ⟨_, _, _⟩ ⟨0, 0, []⟩) | exact cmask_fn [squareL _ _ _ _] _ ⟨_, _, _, _⟩ | exact cbox_fn [squareL _ _ _ _]))
            refine WA_seq (x := (fcd Try.f8 [1, 1, 1, 1, 1, 1, 1, 1, 0, 1, 0, 0, 1, 1, 0, 0, 1, 0])) (y := (fcd Try.f8 [1, 1, 1, 1, 1, 1, 1, 1, 0, 1, 0, 0, 1, 1, 0, 0, 1, 1])) ?_
            refine V_draw Γ [41, 42, 46] [0, 1, 2, 3, 4, 9, 10, 11, 12, 13, 14, 15, 16, 17, 18, 19, 20, 21, 22, 23, 24, 54, 62, 88, 92, 93, 94, 95, 161] mixed (by kernel_rfl) (evs ?_)
            have hk := ‹(k : Int) < _›
            have hv := sq_val h0 he hk
            have hb := kwh (w := r.w) (h := r.h) (k := k) (by omega) (by omega) (by rw [l1.1, k1.1, k1.2.1] at hk; exact hk)
            simp only [hv, k1.1]
            simp only [tmN (show 0 < r.w by omega), tdN (show 0 < r.w by omega)]
            generalize k % r.w.toNat = p at hb hv ⊢
            generalize k / r.w.toNat = q at hb hv ⊢
            simp (disch := omega) only [w64]
            all_goals (try with_reducible (repeat' (first | apply And.intro | intro _)))
            all_goals (try (first | with_reducible refine wa_id ?_ | exact True.intro | omega | exact Fn.nilM 1 (sameM_fn ⟨_, _, _⟩ ⟨0, 0, []⟩) | exact cmask_fn [squareL _ _ _ _] _ ⟨_, _, _, _⟩ | exact cbox_fn [squareL _ _ _ _]))
            refine WA_seq (x := (fcd Try.f8 [1, 1, 1, 1, 1, 1, 1, 1, 0, 1, 0, 0, 1, 1, 0, 0, 1, 1, 0])) (y := (fcd Try.f8 [1, 1, 1, 1, 1, 1, 1, 1, 0, 1, 0, 0, 1, 1, 0, 0, 1, 1, 1])) ?_
            refine V_regionX Γ Δ [41, 42, 46] [0, 1, 2, 3, 4, 9, 10, 11, 12, 13, 14, 15, 16, 17, 18, 19, 20, 21, 22, 23, 24, 54, 62, 88, 92, 93, 94, 95, 161] (evs ?_)
            simp (disch := omega) only [w64]
            simp only [spnE]
            all_goals (try with_reducible (repeat' (first | apply And.intro | intro _)))
            all_goals (try (first | with_reducible refine wa_id ?_ | exact True.intro | omega | exact Fn.nilM 1 (sameM_fn ⟨_, _, _⟩ ⟨0, 0, []⟩) | exact cmask_fn [squareL _ _ _ _] _ ⟨_, _, _, _⟩ | exact cbox_fn [squareL _ _ _ _]))
            refine WA_seq (x := (fcd Try.f8 [1, 1, 1, 1, 1, 1, 1, 1, 0, 1, 0, 0, 1, 1, 0, 0, 1, 1, 1, 0])) (y := (fcd Try.f8 [1, 1, 1, 1, 1, 1, 1, 1, 0, 1, 0, 0, 1, 1, 0, 0, 1, 1, 1, 1])) ?_
            refine V_regionX Γ Δ [41, 42, 46] [0, 1, 2, 3, 4, 9, 10, 11, 12, 13, 14, 15, 16, 17, 18, 19, 20, 21, 22, 23, 24, 54, 62, 88, 92, 93, 94, 95, 161] (evs ?_)
            simp (disch := omega) only [w64]
            simp only [spnE]
            all_goals (try with_reducible (repeat' (first | apply And.intro | intro _)))
            all_goals (try (first | with_reducible refine wa_id ?_ | exact True.intro | omega | exact Fn.nilM 1 (sameM_fn ⟨_, _, _⟩ ⟨0, 0, []⟩) | exact cmask_fn [squareL _ _ _ _] _ ⟨_, _, _, _⟩ | exact cbox_fn [squareL _ _ _ _]))
            refine WA_seq (x := (fcd Try.f8 [1, 1, 1, 1, 1, 1, 1, 1, 0, 1, 0, 0, 1, 1, 0, 0, 1, 1, 1, 1, 0])) (y := (fcd Try.f8 [1, 1, 1, 1, 1, 1, 1, 1, 0, 1, 0, 0, 1, 1, 0, 0, 1, 1, 1, 1, 1])) ?_
            refine V_regionX Γ Δ [41, 42, 46] [0, 1, 2, 3, 4, 9, 10, 11, 12, 13, 14, 15, 16, 17, 18, 19, 20, 21, 22, 23, 24, 54, 62, 88, 92, 93, 94, 95, 161] (evs ?_)
            have b1 := spn_bd (min A C) (max A C) (r.x + p)
            have b2 := spn_bd (min B E) (max B E) (r.y + q)
            have b3 := mul_16 b1 b2
            simp (disch := omega) only [w64, mul3]
            all_goals (try with_reducible (repeat' (first | apply And.intro | intro _)))
            all_goals (try (first | with_reducible refine wa_id ?_ | exact True.intro | exact div_fn _ _ (by omega) (by omega) (by omega) (by omega) | exact has_fn _ ⟨_, _⟩ | omega | exact Fn.nilM 1 (sameM_fn ⟨_, _, _⟩ ⟨0, 0, []⟩) | exact cmask_fn [squareL _ _ _ _] _ ⟨_, _, _, _⟩ | exact cbox_fn [squareL _ _ _ _]))
            refine V_cond (evs ?_)
            refine ⟨fun hc => ?_, fun hc => ?_⟩
            · refine WA_seq (x := (fcd Try.f8 [1, 1, 1, 1, 1, 1, 1, 1, 0, 1, 0, 0, 1, 1, 0, 0, 1, 1, 1, 1, 1, 0, 0])) (y := (fcd Try.f8 [1, 1, 1, 1, 1, 1, 1, 1, 0, 1, 0, 0, 1, 1, 0, 0, 1, 1, 1, 1, 1, 0, 1])) ?_
              refine V_regionX Γ Δ [41, 42, 46] [0, 1, 2, 3, 4, 9, 10, 11, 12, 13, 14, 15, 16, 17, 18, 19, 20, 21, 22, 23, 24, 54, 62, 88, 92, 93, 94, 95, 161] (evs ?_)
              all_goals (try with_reducible (repeat' (first | apply And.intro | intro _)))
              all_goals (try (first | with_reducible refine wa_id ?_ | exact True.intro | omega | exact Fn.nilM 1 (sameM_fn ⟨_, _, _⟩ ⟨0, 0, []⟩) | exact cmask_fn [squareL _ _ _ _] _ ⟨_, _, _, _⟩ | exact cbox_fn [squareL _ _ _ _]))
              refine V_ret (evs ?_)
              first | exact True.intro | (simp [mask_n0 hc, sameM]; done) | (simp [mask_em hc, sameM]; done) | (exfalso; omega) | exact absurd ((sq_has hA hB hC hE hc.1).symm.trans hc.2) (by decide)
            · refine WA_skip ?_
              refine V_regionX Γ Δ [41, 42, 46] [0, 1, 2, 3, 4, 9, 10, 11, 12, 13, 14, 15, 16, 17, 18, 19, 20, 21, 22, 23, 24, 54, 62, 88, 92, 93, 94, 95, 161] (evs ?_)
              all_goals (try with_reducible (repeat' (first | apply And.intro | intro _)))
              all_goals (try (first | with_reducible refine wa_id ?_ | exact True.intro | omega | exact Fn.nilM 1 (sameM_fn ⟨_, _, _⟩ ⟨0, 0, []⟩) | exact cmask_fn [squareL _ _ _ _] _ ⟨_, _, _, _⟩ | exact cbox_fn [squareL _ _ _ _]))
              refine V_next [] (k + 1) (evs ?_) ?_ ?_
              all_goals (try with_reducible (repeat' (first | apply And.intro | intro _)))
              all_goals (first | exact True.intro | omega | (first | exact w64l (n := 65536) (by omega) (by omega)))
          · refine V_exit (evs ?_)
            refine WA_seq (x := (fcd Try.f8 [1, 1, 1, 1, 1, 1, 1, 1, 1, 0])) (y := (fcd Try.f8 [1, 1, 1, 1, 1, 1, 1, 1, 1, 1])) ?_
            refine V_regionX Γ Δ [41, 42, 46] [0, 1, 2, 3, 4, 9, 10, 11, 12, 13, 14, 15, 16, 17, 18, 19, 20, 21, 22, 23, 24, 54, 62, 88, 92, 93, 94, 95, 161] (evs ?_)
            all_goals (try with_reducible (repeat' (first | apply And.intro | intro _)))
            all_goals (try (first | with_reducible refine wa_id ?_ | exact True.intro | omega | exact Fn.nilM 1 (sameM_fn ⟨_, _, _⟩ ⟨0, 0, []⟩) | exact cmask_fn [squareL _ _ _ _] _ ⟨_, _, _, _⟩ | exact cbox_fn [squareL _ _ _ _]))
            refine V_ret (evs ?_)
            first | exact True.intro | (simp [mask_n0 hc, sameM]; done) | (simp [mask_em hc, sameM]; done) | (exfalso; omega) | exact absurd ((sq_has hA hB hC hE hc.1).symm.trans hc.2) (by decide)

end Go.S20

