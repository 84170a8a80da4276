import Derived.Test.YtppghgoeibelkaaLF
import Derived.Test.YtppghgoeibelkaaB23
set_option linter.unusedSimpArgs false
set_option linter.unusedVariables false
namespace Go.S23
open Go.RowKit Go.Proofs Go.Eng Go.Rect
set_option maxHeartbeats 8000000 in
set_option maxRecDepth 100000 in
/-- imageeditor/imageeditorlaw23.MaskPlain -/
theorem l_plain (w h v r n : Int) (m : Mk) (hw : 0 ≤ w ∧ w ≤ 255) (hh : 0 ≤ h ∧ h ≤ 255) (hv : 0 ≤ v ∧ v ≤ 65535) (hr : 0 ≤ r ∧ r ≤ 255) (hn : 0 ≤ n ∧ n ≤ 255) : Eng.Fn Try.prog 6 [.v (.int .u8 w), .v (.int .u8 h), .v (.int .u16 v), .v (.int .u8 r), .v (.int .u8 n), mkD m] (.dat (.b true)) := by
  refine Eng.Fn.by (fn := Try.f6) 95 [.tmp 12] Try.func6 rfl Try.ntmps6 rfl (by simp) fun w0 => ?_
  refine WA_seq (x := (fcd Try.f6 [0])) (y := (fcd Try.f6 [1])) ?_
  refine V_regionX Γ Δ [32, 40, 49, 52, 62, 69, 73, 77, 82, 88, 93] [0, 1, 2, 3, 4, 5, 11, 12, 13, 14, 15, 16, 17, 18, 19, 20, 71, 74] (evs ?_)
  all_goals (try with_reducible (repeat' (first | apply And.intro | intro _)))
  all_goals (try (first | with_reducible refine wa_id ?_ | exact True.intro | omega))
  refine WA_seq (x := (fcd Try.f6 [1, 0])) (y := (fcd Try.f6 [1, 1])) ?_
  refine V_regionX Γ Δ [32, 40, 49, 52, 62, 69, 73, 77, 82, 88, 93] [0, 1, 2, 3, 4, 5, 11, 12, 13, 14, 15, 16, 17, 18, 19, 20, 71, 74] (evs ?_)
  simp (maxSteps := 10000000) (disch := omega) only [w64]
  have w1 := tm16 hw
  have h1 := tm16 hh
  generalize w.tmod 16 = W at w1 ⊢
  generalize h.tmod 16 = H at h1 ⊢
  simp (maxSteps := 10000000) (disch := omega) only [w64]
  all_goals (try with_reducible (repeat' (first | apply And.intro | intro _)))
  all_goals (try (first | with_reducible refine wa_id ?_ | exact True.intro | exact new_fn _ _ _ | omega))
  refine WA_seq (x := (fcd Try.f6 [1, 1, 0])) (y := (fcd Try.f6 [1, 1, 1])) ?_
  refine V_regionX Γ Δ [32, 40, 49, 52, 62, 69, 73, 77, 82, 88, 93] [0, 1, 2, 3, 4, 5, 11, 12, 13, 14, 15, 16, 17, 18, 19, 20, 71, 74] (evs ?_)
  simp (maxSteps := 10000000) (disch := omega) only [w64]
  have r1 := tm8 hr
  generalize r.tmod 8 = R at r1 ⊢
  all_goals (try with_reducible (repeat' (first | apply And.intro | intro _)))
  all_goals (try (first | with_reducible refine wa_id ?_ | exact True.intro | exact fea_fn ⟨_, _, _⟩ _ | omega))
  refine WA_seq (x := (fcd Try.f6 [1, 1, 1, 0])) (y := (fcd Try.f6 [1, 1, 1, 1])) ?_
  refine V_regionX Γ Δ [32, 40, 49, 52, 62, 69, 73, 77, 82, 88, 93] [0, 1, 2, 3, 4, 5, 11, 12, 13, 14, 15, 16, 17, 18, 19, 20, 71, 74] (evs ?_)
  simp (maxSteps := 10000000) (disch := omega) only [w64]
  have n1 := tm33 hn
  generalize n.tmod 33 = N at n1 ⊢
  simp (maxSteps := 10000000) (disch := omega) only [w64]
  all_goals (try with_reducible (repeat' (first | apply And.intro | intro _)))
  all_goals (try (first | with_reducible refine wa_id ?_ | exact True.intro | exact gw_fn ⟨_, _, _⟩ _ | omega))
  refine WA_seq (x := (fcd Try.f6 [1, 1, 1, 1, 0])) (y := (fcd Try.f6 [1, 1, 1, 1, 1])) ?_
  refine WA_seq (x := (fcd Try.f6 [1, 1, 1, 1, 0, 0])) (y := (fcd Try.f6 [1, 1, 1, 1, 0, 1])) ?_
  refine V_regionX Γ Δ [32, 40, 49, 52, 62, 69, 73, 77, 82, 88, 93] [0, 1, 2, 3, 4, 5, 11, 12, 13, 14, 15, 16, 17, 18, 19, 20, 71, 74] (evs ?_)
  have hS : SzOk (1 + W) (1 + H) := by unfold SzOk; omega
  have P1 := (new_ok hS hv).1
  have P2 := fea_plain (r := R) hS hv (by omega)
  have P3 := gw_plain (n := N - 16) hS hv (by omega)
  all_goals (try with_reducible (repeat' (first | apply And.intro | intro _)))
  all_goals (try (first | with_reducible refine wa_id ?_ | exact True.intro | exact awake_fn | exact is_fn ⟨_, _, _⟩ _ ⟨_, _, _⟩ | omega))
  refine V_cond (evs ?_)
  refine ⟨fun hc => ?_, fun hc => ?_⟩
  · refine WA_seq (x := (fcd Try.f6 [1, 1, 1, 1, 0, 1, 0, 0])) (y := (fcd Try.f6 [1, 1, 1, 1, 0, 1, 0, 1])) ?_
    refine V_regionX Γ Δ [32, 40, 49, 52, 62, 69, 73, 77, 82, 88, 93] [0, 1, 2, 3, 4, 5, 11, 12, 13, 14, 15, 16, 17, 18, 19, 20, 71, 74] (evs ?_)
    all_goals (try with_reducible (repeat' (first | apply And.intro | intro _)))
    all_goals (try (first | with_reducible refine wa_id ?_ | exact True.intro | omega))
    refine V_ret (evs ?_)
    first | exact True.intro | (exfalso; simp [sameM, P1, P2.1, P2.2, P3.1, P3.2] at hc; done) | (simp [sameM, (fea_zero hc).1, (fea_zero hc).2, (gw_zero hc).1, (gw_zero hc).2]; done)
  · refine WA_skip ?_
    refine WA_seq (x := (fcd Try.f6 [1, 1, 1, 1, 1, 0])) (y := (fcd Try.f6 [1, 1, 1, 1, 1, 1])) ?_
    refine WA_seq (x := (fcd Try.f6 [1, 1, 1, 1, 1, 0, 0])) (y := (fcd Try.f6 [1, 1, 1, 1, 1, 0, 1])) ?_
    refine V_regionX Γ Δ [32, 40, 49, 52, 62, 69, 73, 77, 82, 88, 93] [0, 1, 2, 3, 4, 5, 11, 12, 13, 14, 15, 16, 17, 18, 19, 20, 71, 74] (evs ?_)
    all_goals (try with_reducible (repeat' (first | apply And.intro | intro _)))
    all_goals (try (first | with_reducible refine wa_id ?_ | exact True.intro | exact mcheck_fn ⟨_, _, _⟩ | omega))
    refine V_cond (evs ?_)
    refine ⟨fun hc => ?_, fun hc => ?_⟩
    · refine WA_seq (x := (fcd Try.f6 [1, 1, 1, 1, 1, 0, 1, 0, 0])) (y := (fcd Try.f6 [1, 1, 1, 1, 1, 0, 1, 0, 1])) ?_
      refine V_regionX Γ Δ [32, 40, 49, 52, 62, 69, 73, 77, 82, 88, 93] [0, 1, 2, 3, 4, 5, 11, 12, 13, 14, 15, 16, 17, 18, 19, 20, 71, 74] (evs ?_)
      all_goals (try with_reducible (repeat' (first | apply And.intro | intro _)))
      all_goals (try (first | with_reducible refine wa_id ?_ | exact True.intro | omega))
      refine V_ret (evs ?_)
      first | exact True.intro | (exfalso; simp [sameM, P1, P2.1, P2.2, P3.1, P3.2] at hc; done) | (simp [sameM, (fea_zero hc).1, (fea_zero hc).2, (gw_zero hc).1, (gw_zero hc).2]; done)
    · refine WA_skip ?_
      refine WA_seq (x := (fcd Try.f6 [1, 1, 1, 1, 1, 1, 0])) (y := (fcd Try.f6 [1, 1, 1, 1, 1, 1, 1])) ?_
      refine V_regionX Γ Δ [32, 40, 49, 52, 62, 69, 73, 77, 82, 88, 93] [0, 1, 2, 3, 4, 5, 11, 12, 13, 14, 15, 16, 17, 18, 19, 20, 71, 74] (evs ?_)
      all_goals (try with_reducible (repeat' (first | apply And.intro | intro _)))
      all_goals (try (first | with_reducible refine wa_id ?_ | exact True.intro | exact fea_fn ⟨_, _, _⟩ _ | omega))
      refine WA_seq (x := (fcd Try.f6 [1, 1, 1, 1, 1, 1, 1, 0])) (y := (fcd Try.f6 [1, 1, 1, 1, 1, 1, 1, 1])) ?_
      refine V_regionX Γ Δ [32, 40, 49, 52, 62, 69, 73, 77, 82, 88, 93] [0, 1, 2, 3, 4, 5, 11, 12, 13, 14, 15, 16, 17, 18, 19, 20, 71, 74] (evs ?_)
      all_goals (try with_reducible (repeat' (first | apply And.intro | intro _)))
      all_goals (try (first | with_reducible refine wa_id ?_ | exact True.intro | exact gw_fn ⟨_, _, _⟩ _ | omega))
      refine WA_seq (x := (fcd Try.f6 [1, 1, 1, 1, 1, 1, 1, 1, 0])) (y := (fcd Try.f6 [1, 1, 1, 1, 1, 1, 1, 1, 1])) ?_
      refine V_regionX Γ Δ [32, 40, 49, 52, 62, 69, 73, 77, 82, 88, 93] [0, 1, 2, 3, 4, 5, 11, 12, 13, 14, 15, 16, 17, 18, 19, 20, 71, 74] (evs ?_)
      all_goals (try with_reducible (repeat' (first | apply And.intro | intro _)))
      all_goals (try (first | with_reducible refine wa_id ?_ | exact True.intro | exact is_fn ⟨_, _, _⟩ _ ⟨_, _, _⟩ | omega))
      refine V_ret (evs ?_)
      first | exact True.intro | (exfalso; simp [sameM, P1, P2.1, P2.2, P3.1, P3.2] at hc; done) | (simp [sameM, (fea_zero hc).1, (fea_zero hc).2, (gw_zero hc).1, (gw_zero hc).2]; done)

end Go.S23

