import Derived.Test.YtppghgoeibelkaaLE
import Derived.Test.YtppghgoeibelkaaA2
set_option linter.unusedSimpArgs false
set_option linter.unusedVariables false
namespace Go.S23
open Go.RowKit Go.Proofs Go.Eng Go.Rect
/-- imageeditor/raster.sized -/
theorem isz_fn (w h : Int) : Eng.Fn Try.prog 84 [.i w, .i h] (.dat (.b (isz w h))) := by
  refine Eng.Fn.by (fn := Try.f84) 26 [.tmp 4] Try.func84 rfl Try.ntmps84 rfl (by simp) fun w0 => ?_
  refine WA_seq (x := (fcd Try.f84 [0])) (y := (fcd Try.f84 [1])) ?_
  refine V_regionX Γ Δ [] [0, 1, 4] (evs ?_)
  all_goals (try with_reducible (repeat' (first | apply And.intro | intro _)))
  all_goals (try (first | with_reducible refine wa_id ?_ | exact True.intro | omega))
  refine WA_seq (x := (fcd Try.f84 [1, 0])) (y := (fcd Try.f84 [1, 1])) ?_
  refine V_regionX Γ Δ [] [0, 1, 4] (evs ?_)
  all_goals (try with_reducible (repeat' (first | apply And.intro | intro _)))
  all_goals (try (first | with_reducible refine wa_id ?_ | exact True.intro | omega))
  refine V_ret (evs ?_)
  first | rfl | (simp [isz]; done)

/-- imageeditor/raster.Check -/
theorem icheck_fn (m : Im) : Eng.Fn Try.prog 66 [imD m] (.dat (.i (ichkE m))) := by
  refine Eng.Fn.by (fn := Try.f66) 33 [.tmp 2] Try.func66 rfl Try.ntmps66 rfl (by simp) fun w0 => ?_
  refine WA_seq (x := (fcd Try.f66 [0])) (y := (fcd Try.f66 [1])) ?_
  refine V_regionX Γ Δ [] [0, 1, 2, 4, 21, 23, 24, 25, 26, 31] (evs ?_)
  all_goals (try with_reducible (repeat' (first | apply And.intro | intro _)))
  all_goals (try (first | with_reducible refine wa_id ?_ | exact True.intro | omega | exact valid06_fn ⟨_, _, _, _⟩))
  refine WA_seq (x := (fcd Try.f66 [1, 0])) (y := (fcd Try.f66 [1, 1])) ?_
  refine WA_seq (x := (fcd Try.f66 [1, 0, 0])) (y := (fcd Try.f66 [1, 0, 1])) ?_
  refine V_regionX Γ Δ [] [0, 1, 2, 4, 21, 23, 24, 25, 26, 31] (evs ?_)
  all_goals (try with_reducible (repeat' (first | apply And.intro | intro _)))
  all_goals (try (first | with_reducible refine wa_id ?_ | exact True.intro | exact isz_fn _ _ | omega | exact valid06_fn ⟨_, _, _, _⟩))
  refine V_cond (evs ?_)
  refine ⟨fun hc => ?_, fun hc => ?_⟩
  · refine WA_seq (x := (fcd Try.f66 [1, 0, 1, 0, 0])) (y := (fcd Try.f66 [1, 0, 1, 0, 1])) ?_
    refine V_regionX Γ Δ [] [0, 1, 2, 4, 21, 23, 24, 25, 26, 31] (evs ?_)
    all_goals (try with_reducible (repeat' (first | apply And.intro | intro _)))
    all_goals (try (first | with_reducible refine wa_id ?_ | exact True.intro | omega | exact valid06_fn ⟨_, _, _, _⟩))
    refine V_ret (evs ?_)
    first | exact ik_1 hc | exact ik_3 hS ‹(k : Int) < _› hc | exact ik_4 hS hI.2 hc
  · refine WA_skip ?_
    refine WA_seq (x := (fcd Try.f66 [1, 1, 0])) (y := (fcd Try.f66 [1, 1, 1])) ?_
    refine WA_seq (x := (fcd Try.f66 [1, 1, 0, 0])) (y := (fcd Try.f66 [1, 1, 0, 1])) ?_
    refine V_regionX Γ Δ [] [0, 1, 2, 4, 21, 23, 24, 25, 26, 31] (evs ?_)
    have hS := ik_S hc
    all_goals (try with_reducible (repeat' (first | apply And.intro | intro _)))
    all_goals (try (first | with_reducible refine wa_id ?_ | exact True.intro | omega | exact valid06_fn ⟨_, _, _, _⟩))
    refine WA_block (c := (fcd Try.f66 [1, 1, 0, 1, 0])) ?_
    refine V_loop (c := (fcd Try.f66 [1, 1, 0, 1, 0, 0])) (α := Nat) [2, 4, 25, 26, 31] [4, 13000, 13001, 13002, 13003] (fun k => [(25, .dat (.i (k : Int)))]) (fun k => []) (fun k => k ≤ m.p.length ∧ (m.p.take k).all validP = true) (fun k => m.p.length - k) 0 [] ?_ (evs ?_) ?_
    · exact ⟨Nat.zero_le _, rfl⟩
    · (try with_reducible (repeat' (first | apply And.intro | intro _)))
      all_goals (first | exact True.intro | omega | (first | rfl))
    · intro k hI
      refine WA_seq (x := (fcd Try.f66 [1, 1, 0, 1, 0, 0, 0])) (y := (fcd Try.f66 [1, 1, 0, 1, 0, 0, 1])) ?_
      refine V_regionX Γ Δ [] [0, 1, 2, 4, 21, 23, 24, 25, 26, 31] (evs ?_)
      all_goals (try with_reducible (repeat' (first | apply And.intro | intro _)))
      all_goals (try (first | with_reducible refine wa_id ?_ | exact True.intro | omega | exact valid06_fn ⟨_, _, _, _⟩))
      refine WA_seq (x := (fcd Try.f66 [1, 1, 0, 1, 0, 0, 1, 0])) (y := (fcd Try.f66 [1, 1, 0, 1, 0, 0, 1, 1])) ?_
      refine V_cond (evs ?_)
      refine ⟨fun hc => ?_, fun hc => ?_⟩
      · refine WA_skip ?_
        refine WA_seq (x := (fcd Try.f66 [1, 1, 0, 1, 0, 0, 1, 1, 0])) (y := (fcd Try.f66 [1, 1, 0, 1, 0, 0, 1, 1, 1])) ?_
        refine WA_block (c := (fcd Try.f66 [1, 1, 0, 1, 0, 0, 1, 1, 0, 0])) ?_
        refine WA_seq (x := (fcd Try.f66 [1, 1, 0, 1, 0, 0, 1, 1, 0, 0, 0])) (y := (fcd Try.f66 [1, 1, 0, 1, 0, 0, 1, 1, 0, 0, 1])) ?_
        refine V_regionX Γ Δ [] [0, 1, 2, 4, 21, 23, 24, 25, 26, 31] (evs ?_)
        all_goals (try with_reducible (repeat' (first | apply And.intro | intro _)))
        all_goals (try (first | with_reducible refine wa_id ?_ | exact True.intro | omega | exact valid06_fn ⟨_, _, _, _⟩))
        refine WA_seq (x := (fcd Try.f66 [1, 1, 0, 1, 0, 0, 1, 1, 0, 0, 1, 0])) (y := (fcd Try.f66 [1, 1, 0, 1, 0, 0, 1, 1, 0, 0, 1, 1])) ?_
        refine V_regionX Γ Δ [] [0, 1, 2, 4, 21, 23, 24, 25, 26, 31] (evs ?_)
        all_goals (try with_reducible (repeat' (first | apply And.intro | intro _)))
        all_goals (try (first | with_reducible refine wa_id ?_ | exact True.intro | exact pvalid6_fn _ | omega | exact valid06_fn ⟨_, _, _, _⟩))
        refine V_cond (evs ?_)
        refine ⟨fun hc => ?_, fun hc => ?_⟩
        · refine WA_seq (x := (fcd Try.f66 [1, 1, 0, 1, 0, 0, 1, 1, 0, 0, 1, 1, 0, 0])) (y := (fcd Try.f66 [1, 1, 0, 1, 0, 0, 1, 1, 0, 0, 1, 1, 0, 1])) ?_
          refine V_regionX Γ Δ [] [0, 1, 2, 4, 21, 23, 24, 25, 26, 31] (evs ?_)
          all_goals (try with_reducible (repeat' (first | apply And.intro | intro _)))
          all_goals (try (first | with_reducible refine wa_id ?_ | exact True.intro | omega | exact valid06_fn ⟨_, _, _, _⟩))
          refine V_ret (evs ?_)
          first | exact ik_1 hc | exact ik_3 hS ‹(k : Int) < _› hc | exact ik_4 hS hI.2 hc
        · refine WA_skip ?_
          refine V_regionX Γ Δ [] [0, 1, 2, 4, 21, 23, 24, 25, 26, 31] (evs ?_)
          all_goals (try with_reducible (repeat' (first | apply And.intro | intro _)))
          all_goals (try (first | with_reducible refine wa_id ?_ | exact True.intro | omega | exact valid06_fn ⟨_, _, _, _⟩))
          refine V_next [] (k + 1) (evs ?_) ?_ ?_
          all_goals (try with_reducible (repeat' (first | apply And.intro | intro _)))
          all_goals (first | exact True.intro | omega | (first | exact w64l ‹(k : Int) < _› ‹m.p.length ≤ 281474976710656› | exact ic5 hI.2 ‹(k : Int) < _› hc))
      · refine V_exit (evs ?_)
        refine WA_seq (x := (fcd Try.f66 [1, 1, 1, 0])) (y := (fcd Try.f66 [1, 1, 1, 1])) ?_
        refine V_regionX Γ Δ [] [0, 1, 2, 4, 21, 23, 24, 25, 26, 31] (evs ?_)
        all_goals (try with_reducible (repeat' (first | apply And.intro | intro _)))
        all_goals (try (first | with_reducible refine wa_id ?_ | exact True.intro | omega | exact valid06_fn ⟨_, _, _, _⟩))
        refine V_ret (evs ?_)
        first | exact ik_1 hc | exact ik_3 hS ‹(k : Int) < _› hc | exact ik_4 hS hI.2 hc

/-- imageeditor/imageeditorref11.Check -/
theorem richeck_fn (m : Im) : Eng.Fn Try.prog 69 [imD m] (.dat (.i (ichkE m))) := by
  refine Eng.Fn.by (fn := Try.f69) 54 [.tmp 2] Try.func69 rfl Try.ntmps69 rfl (by simp) fun w0 => ?_
  refine WA_seq (x := (fcd Try.f69 [0])) (y := (fcd Try.f69 [1])) ?_
  refine V_regionX Γ Δ [] [0, 1, 2, 3, 21, 39, 44, 53] (evs ?_)
  all_goals (try with_reducible (repeat' (first | apply And.intro | intro _)))
  all_goals (try (first | with_reducible refine wa_id ?_ | exact True.intro | omega))
  refine WA_seq (x := (fcd Try.f69 [1, 0])) (y := (fcd Try.f69 [1, 1])) ?_
  refine WA_seq (x := (fcd Try.f69 [1, 0, 0])) (y := (fcd Try.f69 [1, 0, 1])) ?_
  refine V_regionX Γ Δ [] [0, 1, 2, 3, 21, 39, 44, 53] (evs ?_)
  all_goals (try with_reducible (repeat' (first | apply And.intro | intro _)))
  all_goals (try (first | with_reducible refine wa_id ?_ | exact True.intro | omega))
  refine V_cond (evs ?_)
  refine ⟨fun hc => ?_, fun hc => ?_⟩
  · refine WA_seq (x := (fcd Try.f69 [1, 0, 1, 0, 0])) (y := (fcd Try.f69 [1, 0, 1, 0, 1])) ?_
    refine V_regionX Γ Δ [] [0, 1, 2, 3, 21, 39, 44, 53] (evs ?_)
    all_goals (try with_reducible (repeat' (first | apply And.intro | intro _)))
    all_goals (try (first | with_reducible refine wa_id ?_ | exact True.intro | omega))
    refine V_ret (evs ?_)
    first | exact ik_r1 hc | exact ik_r2 hc | exact ik_3 hS ‹(k : Int) < _› hc | exact ik_4 hS hI.2 hc
  · refine WA_skip ?_
    refine WA_seq (x := (fcd Try.f69 [1, 1, 0])) (y := (fcd Try.f69 [1, 1, 1])) ?_
    refine WA_seq (x := (fcd Try.f69 [1, 1, 0, 0])) (y := (fcd Try.f69 [1, 1, 0, 1])) ?_
    refine V_regionX Γ Δ [] [0, 1, 2, 3, 21, 39, 44, 53] (evs ?_)
    have hz : Z0 m.w m.h := by unfold Z0; omega
    have hb := nn_bd hz
    have he := nnE hz
    simp (maxSteps := 10000000) (disch := omega) only [w64]
    all_goals (try with_reducible (repeat' (first | apply And.intro | intro _)))
    all_goals (try (first | with_reducible refine wa_id ?_ | exact True.intro | omega))
    refine V_cond (evs ?_)
    refine ⟨fun hc => ?_, fun hc => ?_⟩
    · refine WA_seq (x := (fcd Try.f69 [1, 1, 0, 1, 0, 0])) (y := (fcd Try.f69 [1, 1, 0, 1, 0, 1])) ?_
      refine V_regionX Γ Δ [] [0, 1, 2, 3, 21, 39, 44, 53] (evs ?_)
      all_goals (try with_reducible (repeat' (first | apply And.intro | intro _)))
      all_goals (try (first | with_reducible refine wa_id ?_ | exact True.intro | omega))
      refine V_ret (evs ?_)
      first | exact ik_r1 hc | exact ik_r2 hc | exact ik_3 hS ‹(k : Int) < _› hc | exact ik_4 hS hI.2 hc
    · refine WA_skip ?_
      refine WA_seq (x := (fcd Try.f69 [1, 1, 1, 0])) (y := (fcd Try.f69 [1, 1, 1, 1])) ?_
      refine WA_seq (x := (fcd Try.f69 [1, 1, 1, 0, 0])) (y := (fcd Try.f69 [1, 1, 1, 0, 1])) ?_
      refine V_regionX Γ Δ [] [0, 1, 2, 3, 21, 39, 44, 53] (evs ?_)
      have hS := ik_rS ‹_› hc
      all_goals (try with_reducible (repeat' (first | apply And.intro | intro _)))
      all_goals (try (first | with_reducible refine wa_id ?_ | exact True.intro | omega))
      refine WA_block (c := (fcd Try.f69 [1, 1, 1, 0, 1, 0])) ?_
      refine V_loop (c := (fcd Try.f69 [1, 1, 1, 0, 1, 0, 0])) (α := Nat) [2, 3, 44, 53] [15200, 15201, 15202, 15203] (fun k => [(3, .dat (.i (k : Int)))]) (fun k => []) (fun k => k ≤ m.p.length ∧ (m.p.take k).all validP = true) (fun k => m.p.length - k) 0 [] ?_ (evs ?_) ?_
      · exact ⟨Nat.zero_le _, rfl⟩
      · (try with_reducible (repeat' (first | apply And.intro | intro _)))
        all_goals (first | exact True.intro | omega | (first | rfl))
      · intro k hI
        refine WA_seq (x := (fcd Try.f69 [1, 1, 1, 0, 1, 0, 0, 0])) (y := (fcd Try.f69 [1, 1, 1, 0, 1, 0, 0, 1])) ?_
        refine WA_seq (x := (fcd Try.f69 [1, 1, 1, 0, 1, 0, 0, 0, 0])) (y := (fcd Try.f69 [1, 1, 1, 0, 1, 0, 0, 0, 1])) ?_
        refine V_regionX Γ Δ [] [0, 1, 2, 3, 21, 39, 44, 53] (evs ?_)
        all_goals (try with_reducible (repeat' (first | apply And.intro | intro _)))
        all_goals (try (first | with_reducible refine wa_id ?_ | exact True.intro | omega))
        refine V_cond (evs ?_)
        refine ⟨fun hc => ?_, fun hc => ?_⟩
        · refine WA_skip ?_
          refine WA_seq (x := (fcd Try.f69 [1, 1, 1, 0, 1, 0, 0, 1, 0])) (y := (fcd Try.f69 [1, 1, 1, 0, 1, 0, 0, 1, 1])) ?_
          refine WA_block (c := (fcd Try.f69 [1, 1, 1, 0, 1, 0, 0, 1, 0, 0])) ?_
          refine WA_seq (x := (fcd Try.f69 [1, 1, 1, 0, 1, 0, 0, 1, 0, 0, 0])) (y := (fcd Try.f69 [1, 1, 1, 0, 1, 0, 0, 1, 0, 0, 1])) ?_
          refine V_regionX Γ Δ [] [0, 1, 2, 3, 21, 39, 44, 53] (evs ?_)
          all_goals (try with_reducible (repeat' (first | apply And.intro | intro _)))
          all_goals (try (first | with_reducible refine wa_id ?_ | exact True.intro | exact rvalid6_fn _ | omega))
          refine V_cond (evs ?_)
          refine ⟨fun hc => ?_, fun hc => ?_⟩
          · refine WA_seq (x := (fcd Try.f69 [1, 1, 1, 0, 1, 0, 0, 1, 0, 0, 1, 0, 0])) (y := (fcd Try.f69 [1, 1, 1, 0, 1, 0, 0, 1, 0, 0, 1, 0, 1])) ?_
            refine V_regionX Γ Δ [] [0, 1, 2, 3, 21, 39, 44, 53] (evs ?_)
            all_goals (try with_reducible (repeat' (first | apply And.intro | intro _)))
            all_goals (try (first | with_reducible refine wa_id ?_ | exact True.intro | omega))
            refine V_ret (evs ?_)
            first | exact ik_r1 hc | exact ik_r2 hc | exact ik_3 hS ‹(k : Int) < _› hc | exact ik_4 hS hI.2 hc
          · refine WA_skip ?_
            refine V_regionX Γ Δ [] [0, 1, 2, 3, 21, 39, 44, 53] (evs ?_)
            all_goals (try with_reducible (repeat' (first | apply And.intro | intro _)))
            all_goals (try (first | with_reducible refine wa_id ?_ | exact True.intro | omega))
            refine V_next [] (k + 1) (evs ?_) ?_ ?_
            all_goals (try with_reducible (repeat' (first | apply And.intro | intro _)))
            all_goals (first | exact True.intro | omega | (first | exact w64l ‹(k : Int) < _› ‹m.p.length ≤ 281474976710656› | exact ic5 hI.2 ‹(k : Int) < _› hc))
        · refine V_exit (evs ?_)
          refine WA_seq (x := (fcd Try.f69 [1, 1, 1, 1, 0])) (y := (fcd Try.f69 [1, 1, 1, 1, 1])) ?_
          refine V_regionX Γ Δ [] [0, 1, 2, 3, 21, 39, 44, 53] (evs ?_)
          all_goals (try with_reducible (repeat' (first | apply And.intro | intro _)))
          all_goals (try (first | with_reducible refine wa_id ?_ | exact True.intro | omega))
          refine V_ret (evs ?_)
          first | exact ik_r1 hc | exact ik_r2 hc | exact ik_3 hS ‹(k : Int) < _› hc | exact ik_4 hS hI.2 hc

set_option maxHeartbeats 4000000 in
/-- imageeditor/pixel.Mix -/
theorem mixp_fn (a b : Px) (t : Int) : Eng.Fn Try.prog 71 [pxD a, pxD b, .i t] (.dat (pxD (mixP a b t))) := by
  have u0 := unit_bd t
  have u1 := unit_bd a.r
  have u2 := unit_bd a.g
  have u3 := unit_bd a.b
  have u4 := unit_bd a.a
  have u5 := unit_bd b.r
  have u6 := unit_bd b.g
  have u7 := unit_bd b.b
  have u8 := unit_bd b.a
  have m1 := mu_b u4 (show 0 ≤ 65535 - unitI t ∧ 65535 - unitI t ≤ 65535 by omega)
  have m2 := mu_b u8 u0
  refine Eng.Fn.by (fn := Try.f71) 69 [.cell 6 49] Try.func71 rfl Try.ntmps71 rfl (by simp) fun w0 => ?_
  refine WA_seq (x := (fcd Try.f71 [0])) (y := (fcd Try.f71 [1])) ?_
  refine V_regionX Γ Δ [] [0, 1, 2, 3, 4, 6, 7, 8, 9, 10, 32] (evs ?_)
  all_goals (try with_reducible (repeat' (first | apply And.intro | intro _)))
  all_goals (try (first | with_reducible refine wa_id ?_ | exact True.intro | omega))
  refine WA_seq (x := (fcd Try.f71 [1, 0])) (y := (fcd Try.f71 [1, 1])) ?_
  refine V_draw Γ [] [0, 1, 2, 3, 4, 6, 7, 8, 9, 10, 32] mixed (by kernel_rfl) (evs ?_)
  all_goals (try with_reducible (repeat' (first | apply And.intro | intro _)))
  all_goals (try (first | with_reducible refine wa_id ?_ | exact True.intro | exact plimit_fn _ | exact punit_fn _ | omega))
  refine WA_seq (x := (fcd Try.f71 [1, 1, 0])) (y := (fcd Try.f71 [1, 1, 1])) ?_
  refine V_draw Γ [] [0, 1, 2, 3, 4, 6, 7, 8, 9, 10, 32] mixed (by kernel_rfl) (evs ?_)
  simp only [limP]
  simp (maxSteps := 10000000) (disch := omega) only [w64]
  all_goals (try with_reducible (repeat' (first | apply And.intro | intro _)))
  all_goals (try (first | with_reducible refine wa_id ?_ | exact True.intro | omega))
  refine WA_seq (x := (fcd Try.f71 [1, 1, 1, 0])) (y := (fcd Try.f71 [1, 1, 1, 1])) ?_
  refine V_regionX Γ Δ [] [0, 1, 2, 3, 4, 6, 7, 8, 9, 10, 32] (evs ?_)
  simp (maxSteps := 10000000) (disch := omega) only [w64]
  all_goals (try with_reducible (repeat' (first | apply And.intro | intro _)))
  all_goals (try (first | with_reducible refine wa_id ?_ | exact True.intro | omega))
  refine WA_seq (x := (fcd Try.f71 [1, 1, 1, 1, 0])) (y := (fcd Try.f71 [1, 1, 1, 1, 1])) ?_
  refine V_regionX Γ Δ [] [0, 1, 2, 3, 4, 6, 7, 8, 9, 10, 32] (evs ?_)
  all_goals (try with_reducible (repeat' (first | apply And.intro | intro _)))
  all_goals (try (first | with_reducible refine wa_id ?_ | exact True.intro | exact div_fn _ _ (by omega) (by omega) (by omega) (by omega) | omega))
  refine WA_seq (x := (fcd Try.f71 [1, 1, 1, 1, 1, 0])) (y := (fcd Try.f71 [1, 1, 1, 1, 1, 1])) ?_
  refine WA_seq (x := (fcd Try.f71 [1, 1, 1, 1, 1, 0, 0])) (y := (fcd Try.f71 [1, 1, 1, 1, 1, 0, 1])) ?_
  refine V_regionX Γ Δ [] [0, 1, 2, 3, 4, 6, 7, 8, 9, 10, 32] (evs ?_)
  all_goals (try with_reducible (repeat' (first | apply And.intro | intro _)))
  all_goals (try (first | with_reducible refine wa_id ?_ | exact True.intro | omega))
  refine V_cond (evs ?_)
  refine ⟨fun hc => ?_, fun hc => ?_⟩
  · refine WA_seq (x := (fcd Try.f71 [1, 1, 1, 1, 1, 0, 1, 0, 0])) (y := (fcd Try.f71 [1, 1, 1, 1, 1, 0, 1, 0, 1])) ?_
    refine V_regionX Γ Δ [] [0, 1, 2, 3, 4, 6, 7, 8, 9, 10, 32] (evs ?_)
    all_goals (try with_reducible (repeat' (first | apply And.intro | intro _)))
    all_goals (try (first | with_reducible refine wa_id ?_ | exact True.intro | omega))
    refine V_ret (evs ?_)
    first | exact pe (p := zP) (mx_0 hc) | exact pe (mx_1 hc)
  · refine WA_skip ?_
    refine WA_seq (x := (fcd Try.f71 [1, 1, 1, 1, 1, 1, 0])) (y := (fcd Try.f71 [1, 1, 1, 1, 1, 1, 1])) ?_
    refine V_draw Γ [] [0, 1, 2, 3, 4, 6, 7, 8, 9, 10, 32] mixed (by kernel_rfl) (evs ?_)
    have n1 := mv_b u1 m1.1
    have n2 := mv_b u2 m1.1
    have n3 := mv_b u3 m1.1
    have n5 := mv_b u5 m2.1
    have n6 := mv_b u6 m2.1
    have n7 := mv_b u7 m2.1
    have hd := mx_d (by omega) hc
    simp (maxSteps := 10000000) (disch := omega) only [w64]
    all_goals (try with_reducible (repeat' (first | apply And.intro | intro _)))
    all_goals (try (first | with_reducible refine wa_id ?_ | exact True.intro | exact div_fn _ _ (by omega) (by omega) (by omega) (by omega) | omega))
    refine V_ret (evs ?_)
    first | exact pe (p := zP) (mx_0 hc) | exact pe (mx_1 hc)

set_option maxHeartbeats 4000000 in
/-- imageeditor/imageeditorref06.Mix -/
theorem rmixp_fn (a b : Px) (t : Int) : Eng.Fn Try.prog 72 [pxD a, pxD b, .i t] (.dat (pxD (mixP a b t))) := by
  have u0 := unit_bd t
  have u1 := unit_bd a.r
  have u2 := unit_bd a.g
  have u3 := unit_bd a.b
  have u4 := unit_bd a.a
  have u5 := unit_bd b.r
  have u6 := unit_bd b.g
  have u7 := unit_bd b.b
  have u8 := unit_bd b.a
  have m1 := mu_b u4 (show 0 ≤ 65535 - unitI t ∧ 65535 - unitI t ≤ 65535 by omega)
  have m2 := mu_b u8 u0
  refine Eng.Fn.by (fn := Try.f72) 69 [.cell 6 49] Try.func72 rfl Try.ntmps72 rfl (by simp) fun w0 => ?_
  refine WA_seq (x := (fcd Try.f72 [0])) (y := (fcd Try.f72 [1])) ?_
  refine V_regionX Γ Δ [] [0, 1, 2, 3, 4, 6, 7, 8, 9, 10, 32] (evs ?_)
  all_goals (try with_reducible (repeat' (first | apply And.intro | intro _)))
  all_goals (try (first | with_reducible refine wa_id ?_ | exact True.intro | omega))
  refine WA_seq (x := (fcd Try.f72 [1, 0])) (y := (fcd Try.f72 [1, 1])) ?_
  refine V_draw Γ [] [0, 1, 2, 3, 4, 6, 7, 8, 9, 10, 32] mixed (by kernel_rfl) (evs ?_)
  all_goals (try with_reducible (repeat' (first | apply And.intro | intro _)))
  all_goals (try (first | with_reducible refine wa_id ?_ | exact True.intro | exact rlimit_fn _ | exact rpunit_fn _ | omega))
  refine WA_seq (x := (fcd Try.f72 [1, 1, 0])) (y := (fcd Try.f72 [1, 1, 1])) ?_
  refine V_draw Γ [] [0, 1, 2, 3, 4, 6, 7, 8, 9, 10, 32] mixed (by kernel_rfl) (evs ?_)
  simp only [limP]
  simp (maxSteps := 10000000) (disch := omega) only [w64]
  all_goals (try with_reducible (repeat' (first | apply And.intro | intro _)))
  all_goals (try (first | with_reducible refine wa_id ?_ | exact True.intro | omega))
  refine WA_seq (x := (fcd Try.f72 [1, 1, 1, 0])) (y := (fcd Try.f72 [1, 1, 1, 1])) ?_
  refine V_regionX Γ Δ [] [0, 1, 2, 3, 4, 6, 7, 8, 9, 10, 32] (evs ?_)
  simp (maxSteps := 10000000) (disch := omega) only [w64]
  all_goals (try with_reducible (repeat' (first | apply And.intro | intro _)))
  all_goals (try (first | with_reducible refine wa_id ?_ | exact True.intro | omega))
  refine WA_seq (x := (fcd Try.f72 [1, 1, 1, 1, 0])) (y := (fcd Try.f72 [1, 1, 1, 1, 1])) ?_
  refine V_regionX Γ Δ [] [0, 1, 2, 3, 4, 6, 7, 8, 9, 10, 32] (evs ?_)
  all_goals (try with_reducible (repeat' (first | apply And.intro | intro _)))
  all_goals (try (first | with_reducible refine wa_id ?_ | exact True.intro | exact rdiv_fn _ _ (by omega) (by omega) (by omega) (by omega) | omega))
  refine WA_seq (x := (fcd Try.f72 [1, 1, 1, 1, 1, 0])) (y := (fcd Try.f72 [1, 1, 1, 1, 1, 1])) ?_
  refine WA_seq (x := (fcd Try.f72 [1, 1, 1, 1, 1, 0, 0])) (y := (fcd Try.f72 [1, 1, 1, 1, 1, 0, 1])) ?_
  refine V_regionX Γ Δ [] [0, 1, 2, 3, 4, 6, 7, 8, 9, 10, 32] (evs ?_)
  all_goals (try with_reducible (repeat' (first | apply And.intro | intro _)))
  all_goals (try (first | with_reducible refine wa_id ?_ | exact True.intro | omega))
  refine V_cond (evs ?_)
  refine ⟨fun hc => ?_, fun hc => ?_⟩
  · refine WA_seq (x := (fcd Try.f72 [1, 1, 1, 1, 1, 0, 1, 0, 0])) (y := (fcd Try.f72 [1, 1, 1, 1, 1, 0, 1, 0, 1])) ?_
    refine V_regionX Γ Δ [] [0, 1, 2, 3, 4, 6, 7, 8, 9, 10, 32] (evs ?_)
    all_goals (try with_reducible (repeat' (first | apply And.intro | intro _)))
    all_goals (try (first | with_reducible refine wa_id ?_ | exact True.intro | omega))
    refine V_ret (evs ?_)
    first | exact pe (p := zP) (mx_0 hc) | exact pe (mx_1 hc)
  · refine WA_skip ?_
    refine WA_seq (x := (fcd Try.f72 [1, 1, 1, 1, 1, 1, 0])) (y := (fcd Try.f72 [1, 1, 1, 1, 1, 1, 1])) ?_
    refine V_draw Γ [] [0, 1, 2, 3, 4, 6, 7, 8, 9, 10, 32] mixed (by kernel_rfl) (evs ?_)
    have n1 := mv_b u1 m1.1
    have n2 := mv_b u2 m1.1
    have n3 := mv_b u3 m1.1
    have n5 := mv_b u5 m2.1
    have n6 := mv_b u6 m2.1
    have n7 := mv_b u7 m2.1
    have hd := mx_d (by omega) hc
    simp (maxSteps := 10000000) (disch := omega) only [w64]
    all_goals (try with_reducible (repeat' (first | apply And.intro | intro _)))
    all_goals (try (first | with_reducible refine wa_id ?_ | exact True.intro | exact rdiv_fn _ _ (by omega) (by omega) (by omega) (by omega) | omega))
    refine V_ret (evs ?_)
    first | exact pe (p := zP) (mx_0 hc) | exact pe (mx_1 hc)

end Go.S23

