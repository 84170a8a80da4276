import Derived.Test.YtppghgoeibelkaaLG
import Derived.Test.YtppghgoeibelkaaB23
set_option linter.unusedSimpArgs false
set_option linter.unusedVariables false
namespace Go.S23
open Go.RowKit Go.Proofs Go.Eng Go.Rect
set_option maxHeartbeats 8000000 in
set_option maxRecDepth 100000 in
/-- imageeditor/imageeditorlaw23.MaskRounds -/
theorem l_rounds (w h : Int) (hw : 0 ≤ w ∧ w ≤ 255) (hh : 0 ≤ h ∧ h ≤ 255) : Eng.Fn Try.prog 8 [.v (.int .u8 w), .v (.int .u8 h)] (.dat (.b true)) := by
  refine Eng.Fn.by (fn := Try.f8) 129 [.tmp 4] Try.func8 rfl Try.ntmps8 rfl (by simp) fun w0 => ?_
  refine WA_seq (x := (fcd Try.f8 [0])) (y := (fcd Try.f8 [1])) ?_
  refine V_regionX Γ Δ [28, 31, 52, 60] [0, 1, 4, 5, 6, 7, 8, 9, 10, 11, 12, 13, 57, 59, 60, 61, 62, 109] (evs ?_)
  all_goals (try with_reducible (repeat' (first | apply And.intro | intro _)))
  all_goals (try (first | with_reducible refine wa_id ?_ | exact True.intro | omega | exact ell_fn _ _ ⟨_, _, _, _⟩))
  refine WA_seq (x := (fcd Try.f8 [1, 0])) (y := (fcd Try.f8 [1, 1])) ?_
  refine V_regionX Γ Δ [28, 31, 52, 60] [0, 1, 4, 5, 6, 7, 8, 9, 10, 11, 12, 13, 57, 59, 60, 61, 62, 109] (evs ?_)
  simp (maxSteps := 10000000) (disch := omega) only [w64]
  have w1 := tm24 hw
  have h1 := tm24 hh
  generalize w.tmod 24 = W at w1 ⊢
  generalize h.tmod 24 = H at h1 ⊢
  simp (maxSteps := 10000000) (disch := omega) only [w64]
  obtain ⟨A, eA⟩ : ∃ A : Nat, 1 + W = (A : Int) := ⟨(1 + W).toNat, by omega⟩
  obtain ⟨B, eB⟩ : ∃ B : Nat, 1 + H = (B : Int) := ⟨(1 + H).toNat, by omega⟩
  have hA : 1 ≤ A ∧ A ≤ 24 := by omega
  have hB : 1 ≤ B ∧ B ≤ 24 := by omega
  simp only [eA, eB]
  have RS := rv_sum hA hB
  have M1 := ro_m hA hB
  all_goals (try with_reducible (repeat' (first | apply And.intro | intro _)))
  all_goals (try (first | with_reducible refine wa_id ?_ | exact True.intro | omega | exact ell_fn _ _ ⟨_, _, _, _⟩))
  refine WA_seq (x := (fcd Try.f8 [1, 1, 0])) (y := (fcd Try.f8 [1, 1, 1])) ?_
  refine V_regionX Γ Δ [28, 31, 52, 60] [0, 1, 4, 5, 6, 7, 8, 9, 10, 11, 12, 13, 57, 59, 60, 61, 62, 109] (evs ?_)
  all_goals (try with_reducible (repeat' (first | apply And.intro | intro _)))
  all_goals (try (first | with_reducible refine wa_id ?_ | exact True.intro | exact ell_fn _ _ ⟨_, _, _, _⟩ | omega | exact ell_fn _ _ ⟨_, _, _, _⟩))
  simp only [M1.2]
  refine WA_seq (x := (fcd Try.f8 [1, 1, 1, 0])) (y := (fcd Try.f8 [1, 1, 1, 1])) ?_
  refine WA_seq (x := (fcd Try.f8 [1, 1, 1, 0, 0])) (y := (fcd Try.f8 [1, 1, 1, 0, 1])) ?_
  refine V_regionX Γ Δ [28, 31, 52, 60] [0, 1, 4, 5, 6, 7, 8, 9, 10, 11, 12, 13, 57, 59, 60, 61, 62, 109] (evs ?_)
  simp only [M1.1, M1.2, tab_len]
  simp (maxSteps := 10000000) (disch := omega) only [w64]
  have wab := RS.2.2.2.2
  all_goals (try with_reducible (repeat' (first | apply And.intro | intro _)))
  all_goals (try (first | with_reducible refine wa_id ?_ | exact True.intro | exact awake_fn | omega | exact ell_fn _ _ ⟨_, _, _, _⟩))
  refine V_cond (evs ?_)
  refine ⟨fun hc => ?_, fun hc => ?_⟩
  · refine WA_seq (x := (fcd Try.f8 [1, 1, 1, 0, 1, 0, 0])) (y := (fcd Try.f8 [1, 1, 1, 0, 1, 0, 1])) ?_
    refine V_regionX Γ Δ [28, 31, 52, 60] [0, 1, 4, 5, 6, 7, 8, 9, 10, 11, 12, 13, 57, 59, 60, 61, 62, 109] (evs ?_)
    all_goals (try with_reducible (repeat' (first | apply And.intro | intro _)))
    all_goals (try (first | with_reducible refine wa_id ?_ | exact True.intro | omega | exact ell_fn _ _ ⟨_, _, _, _⟩))
    refine V_ret (evs ?_)
    first | exact True.intro | (exfalso; simp [M1.1, wab, RS.2.2.2.2] at hc; done) | (exfalso; omega) | exact ⟨RS.1, RS.2.1⟩
  · refine WA_skip ?_
    refine WA_seq (x := (fcd Try.f8 [1, 1, 1, 1, 0])) (y := (fcd Try.f8 [1, 1, 1, 1, 1])) ?_
    refine V_regionX Γ Δ [28, 31, 52, 60] [0, 1, 4, 5, 6, 7, 8, 9, 10, 11, 12, 13, 57, 59, 60, 61, 62, 109] (evs ?_)
    all_goals (try with_reducible (repeat' (first | apply And.intro | intro _)))
    all_goals (try (first | with_reducible refine wa_id ?_ | exact True.intro | omega | exact ell_fn _ _ ⟨_, _, _, _⟩))
    refine WA_seq (x := (fcd Try.f8 [1, 1, 1, 1, 1, 0])) (y := (fcd Try.f8 [1, 1, 1, 1, 1, 1])) ?_
    refine WA_seq (x := (fcd Try.f8 [1, 1, 1, 1, 1, 0, 0])) (y := (fcd Try.f8 [1, 1, 1, 1, 1, 0, 1])) ?_
    refine V_regionX Γ Δ [28, 31, 52, 60] [0, 1, 4, 5, 6, 7, 8, 9, 10, 11, 12, 13, 57, 59, 60, 61, 62, 109] (evs ?_)
    all_goals (try with_reducible (repeat' (first | apply And.intro | intro _)))
    all_goals (try (first | with_reducible refine wa_id ?_ | exact True.intro | omega | exact ell_fn _ _ ⟨_, _, _, _⟩))
    refine WA_block (c := (fcd Try.f8 [1, 1, 1, 1, 1, 0, 1, 0])) ?_
    refine V_loop (c := (fcd Try.f8 [1, 1, 1, 1, 1, 0, 1, 0, 0])) (α := Nat) [4, 9, 10, 11, 12, 13, 61, 62, 109] [] (fun k => [(61, .dat (.i (k : Int))), (9, .dat (.i (sumN (rv A B) k)))]) (fun k => []) (fun k => k ≤ A * B) (fun k => A * B - k) 0 [] ?_ (evs ?_) ?_
    · exact Nat.zero_le _
    · (try with_reducible (repeat' (first | apply And.intro | intro _)))
      all_goals (first | exact True.intro | omega | (first | rfl))
    · intro k hI
      refine WA_seq (x := (fcd Try.f8 [1, 1, 1, 1, 1, 0, 1, 0, 0, 0])) (y := (fcd Try.f8 [1, 1, 1, 1, 1, 0, 1, 0, 0, 1])) ?_
      refine V_regionX Γ Δ [28, 31, 52, 60] [0, 1, 4, 5, 6, 7, 8, 9, 10, 11, 12, 13, 57, 59, 60, 61, 62, 109] (evs ?_)
      all_goals (try with_reducible (repeat' (first | apply And.intro | intro _)))
      all_goals (try (first | with_reducible refine wa_id ?_ | exact True.intro | omega | exact ell_fn _ _ ⟨_, _, _, _⟩))
      refine WA_seq (x := (fcd Try.f8 [1, 1, 1, 1, 1, 0, 1, 0, 0, 1, 0])) (y := (fcd Try.f8 [1, 1, 1, 1, 1, 0, 1, 0, 0, 1, 1])) ?_
      refine V_cond (evs ?_)
      refine ⟨fun hc => ?_, fun hc => ?_⟩
      · refine WA_skip ?_
        refine WA_seq (x := (fcd Try.f8 [1, 1, 1, 1, 1, 0, 1, 0, 0, 1, 1, 0])) (y := (fcd Try.f8 [1, 1, 1, 1, 1, 0, 1, 0, 0, 1, 1, 1])) ?_
        refine WA_block (c := (fcd Try.f8 [1, 1, 1, 1, 1, 0, 1, 0, 0, 1, 1, 0, 0])) ?_
        refine WA_seq (x := (fcd Try.f8 [1, 1, 1, 1, 1, 0, 1, 0, 0, 1, 1, 0, 0, 0])) (y := (fcd Try.f8 [1, 1, 1, 1, 1, 0, 1, 0, 0, 1, 1, 0, 0, 1])) ?_
        refine V_regionX Γ Δ [28, 31, 52, 60] [0, 1, 4, 5, 6, 7, 8, 9, 10, 11, 12, 13, 57, 59, 60, 61, 62, 109] (evs ?_)
        have hk := ‹(k : Int) < _›
        simp only [tgI (show (k : Int) < ((A * B : Nat) : Int) by omega)]
        have V := rv_bd hA hB k
        have RK := ro_k hA hB (k := k) (by omega)
        all_goals (try with_reducible (repeat' (first | apply And.intro | intro _)))
        all_goals (try (first | with_reducible refine wa_id ?_ | exact True.intro | omega | exact ell_fn _ _ ⟨_, _, _, _⟩))
        refine WA_seq (x := (fcd Try.f8 [1, 1, 1, 1, 1, 0, 1, 0, 0, 1, 1, 0, 0, 1, 0])) (y := (fcd Try.f8 [1, 1, 1, 1, 1, 0, 1, 0, 0, 1, 1, 0, 0, 1, 1])) ?_
        refine V_draw Γ [28, 31, 52, 60] [0, 1, 4, 5, 6, 7, 8, 9, 10, 11, 12, 13, 57, 59, 60, 61, 62, 109] mixed (by kernel_rfl) (evs ?_)
        simp only [tmN (show 0 < (A : Int) by omega), tdN (show 0 < (A : Int) by omega), Int.toNat_natCast]
        generalize k % A = p at RK ⊢
        generalize k / A = q at RK ⊢
        obtain ⟨p1, p2, ⟨i1, a1, a2, a3, a4, a5⟩, ⟨i2, b1, b2, b3, b4, b5⟩⟩ := RK
        simp (maxSteps := 10000000) (disch := omega) only [w64]
        all_goals (try with_reducible (repeat' (first | apply And.intro | intro _)))
        all_goals (try (first | with_reducible refine wa_id ?_ | exact True.intro | omega | exact ell_fn _ _ ⟨_, _, _, _⟩))
        refine WA_seq (x := (fcd Try.f8 [1, 1, 1, 1, 1, 0, 1, 0, 0, 1, 1, 0, 0, 1, 1, 0])) (y := (fcd Try.f8 [1, 1, 1, 1, 1, 0, 1, 0, 0, 1, 1, 0, 0, 1, 1, 1])) ?_
        refine WA_seq (x := (fcd Try.f8 [1, 1, 1, 1, 1, 0, 1, 0, 0, 1, 1, 0, 0, 1, 1, 0, 0])) (y := (fcd Try.f8 [1, 1, 1, 1, 1, 0, 1, 0, 0, 1, 1, 0, 0, 1, 1, 0, 1])) ?_
        refine V_regionX Γ Δ [28, 31, 52, 60] [0, 1, 4, 5, 6, 7, 8, 9, 10, 11, 12, 13, 57, 59, 60, 61, 62, 109] (evs ?_)
        simp (maxSteps := 10000000) (disch := omega) only [w64]
        simp only [a1, b1, Int.toNat_natCast, tab_getD a2, tab_getD b2, a3, b3]
        all_goals (try with_reducible (repeat' (first | apply And.intro | intro _)))
        all_goals (try (first | with_reducible refine wa_id ?_ | exact True.intro | omega | exact ell_fn _ _ ⟨_, _, _, _⟩))
        refine V_cond (evs ?_)
        refine ⟨fun hc => ?_, fun hc => ?_⟩
        · refine WA_seq (x := (fcd Try.f8 [1, 1, 1, 1, 1, 0, 1, 0, 0, 1, 1, 0, 0, 1, 1, 0, 1, 0, 0])) (y := (fcd Try.f8 [1, 1, 1, 1, 1, 0, 1, 0, 0, 1, 1, 0, 0, 1, 1, 0, 1, 0, 1])) ?_
          refine V_regionX Γ Δ [28, 31, 52, 60] [0, 1, 4, 5, 6, 7, 8, 9, 10, 11, 12, 13, 57, 59, 60, 61, 62, 109] (evs ?_)
          all_goals (try with_reducible (repeat' (first | apply And.intro | intro _)))
          all_goals (try (first | with_reducible refine wa_id ?_ | exact True.intro | omega | exact ell_fn _ _ ⟨_, _, _, _⟩))
          refine V_ret (evs ?_)
          first | exact True.intro | (exfalso; simp [M1.1, wab, RS.2.2.2.2] at hc; done) | (exfalso; omega) | exact ⟨RS.1, RS.2.1⟩
        · refine WA_skip ?_
          refine V_regionX Γ Δ [28, 31, 52, 60] [0, 1, 4, 5, 6, 7, 8, 9, 10, 11, 12, 13, 57, 59, 60, 61, 62, 109] (evs ?_)
          have P := rv_part hA hB k
          simp (maxSteps := 10000000) (disch := omega) only [w64]
          all_goals (try with_reducible (repeat' (first | apply And.intro | intro _)))
          all_goals (try (first | with_reducible refine wa_id ?_ | exact True.intro | omega | exact ell_fn _ _ ⟨_, _, _, _⟩))
          refine V_regionX Γ Δ [28, 31, 52, 60] [0, 1, 4, 5, 6, 7, 8, 9, 10, 11, 12, 13, 57, 59, 60, 61, 62, 109] (evs ?_)
          all_goals (try with_reducible (repeat' (first | apply And.intro | intro _)))
          all_goals (try (first | with_reducible refine wa_id ?_ | exact True.intro | omega | exact ell_fn _ _ ⟨_, _, _, _⟩))
          refine V_next [] (k + 1) (evs ?_) ?_ ?_
          all_goals (try with_reducible (repeat' (first | apply And.intro | intro _)))
          all_goals (first | exact True.intro | omega | (first | exact w64l (n := 576) (by omega) (by omega) | (rw [sumN_succ]; done)))
      · refine V_exit (evs ?_)
        refine WA_seq (x := (fcd Try.f8 [1, 1, 1, 1, 1, 1, 0])) (y := (fcd Try.f8 [1, 1, 1, 1, 1, 1, 1])) ?_
        refine V_regionX Γ Δ [28, 31, 52, 60] [0, 1, 4, 5, 6, 7, 8, 9, 10, 11, 12, 13, 57, 59, 60, 61, 62, 109] (evs ?_)
        have hkk : k = A * B := by omega
        subst hkk
        have P := rv_part hA hB (A * B)
        simp (maxSteps := 10000000) (disch := omega) only [w64]
        all_goals (try with_reducible (repeat' (first | apply And.intro | intro _)))
        all_goals (try (first | with_reducible refine wa_id ?_ | exact True.intro | omega | exact ell_fn _ _ ⟨_, _, _, _⟩))
        refine V_ret (evs ?_)
        first | exact True.intro | (exfalso; simp [M1.1, wab, RS.2.2.2.2] at hc; done) | (exfalso; omega) | exact ⟨RS.1, RS.2.1⟩

end Go.S23

