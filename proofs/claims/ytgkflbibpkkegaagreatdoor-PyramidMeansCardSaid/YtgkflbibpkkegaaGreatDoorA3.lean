import Derived.Test.YtgkflbibpkkegaaGreatDoorA2
set_option linter.unusedSimpArgs false
set_option linter.unusedVariables false
set_option linter.unusedSimpArgs false
set_option linter.unusedVariables false
namespace Go.S35
open Go.RowKit Go.Proofs Go.Eng Go.Rect
theorem isz_fn (w h : Int) : Eng.Fn Tryz.prog 40 [.i w, .i h] (.dat (.b (isz w h))) := by
  refine Eng.Fn.by (fn := Tryz.f40) 26 [.tmp 4] Tryz.func40 rfl Tryz.ntmps40 rfl (by simp) fun w0 G0 => ?_
  refine WA_seq (x := (fcd Tryz.f40 [0])) (y := (fcd Tryz.f40 [1])) ?_
  refine V_regionX Γ Δ [] [0, 1, 4] (evs ?_)
  all_goals (try with_reducible (repeat' (first | apply And.intro | intro _)))
  all_goals (try (first | with_reducible refine wa_id ?_ | exact True.intro | omega))
  refine WA_seq (x := (fcd Tryz.f40 [1, 0])) (y := (fcd Tryz.f40 [1, 1])) ?_
  refine V_regionX Γ Δ [] [0, 1, 4] (evs ?_)
  all_goals (try with_reducible (repeat' (first | apply And.intro | intro _)))
  all_goals (try (first | with_reducible refine wa_id ?_ | exact True.intro | omega))
  refine V_ret (evs ?_)
  first | rfl | (simp [isz]; done)

theorem icheck_fn (m : Im) : Eng.Fn Tryz.prog 20 [imD m] (.dat (.i (ichkE m))) := by
  refine Eng.Fn.by (fn := Tryz.f20) 33 [.tmp 2] Tryz.func20 rfl Tryz.ntmps20 rfl (by simp) fun w0 G0 => ?_
  refine WA_seq (x := (fcd Tryz.f20 [0])) (y := (fcd Tryz.f20 [1])) ?_
  refine V_regionX Γ Δ [] [0, 1, 2, 4, 21, 23, 24, 25, 26, 31] (evs ?_)
  all_goals (try with_reducible (repeat' (first | apply And.intro | intro _)))
  all_goals (try (first | with_reducible refine wa_id ?_ | exact True.intro | omega | exact valid06_fn ⟨_, _, _, _⟩))
  refine WA_seq (x := (fcd Tryz.f20 [1, 0])) (y := (fcd Tryz.f20 [1, 1])) ?_
  refine WA_seq (x := (fcd Tryz.f20 [1, 0, 0])) (y := (fcd Tryz.f20 [1, 0, 1])) ?_
  refine V_regionX Γ Δ [] [0, 1, 2, 4, 21, 23, 24, 25, 26, 31] (evs ?_)
  all_goals (try with_reducible (repeat' (first | apply And.intro | intro _)))
  all_goals (try (first | with_reducible refine wa_id ?_ | exact True.intro | exact isz_fn _ _ | omega | exact valid06_fn ⟨_, _, _, _⟩))
  refine V_cond (evs ?_)
  refine ⟨fun hc => ?_, fun hc => ?_⟩
  · refine WA_seq (x := (fcd Tryz.f20 [1, 0, 1, 0, 0])) (y := (fcd Tryz.f20 [1, 0, 1, 0, 1])) ?_
    refine V_regionX Γ Δ [] [0, 1, 2, 4, 21, 23, 24, 25, 26, 31] (evs ?_)
    all_goals (try with_reducible (repeat' (first | apply And.intro | intro _)))
    all_goals (try (first | with_reducible refine wa_id ?_ | exact True.intro | omega | exact valid06_fn ⟨_, _, _, _⟩))
    refine V_ret (evs ?_)
    first | exact ik_1 hc | exact ik_3 hS ‹(k : Int) < _› hc | exact ik_4 hS hI.2 hc
  · refine WA_skip ?_
    refine WA_seq (x := (fcd Tryz.f20 [1, 1, 0])) (y := (fcd Tryz.f20 [1, 1, 1])) ?_
    refine WA_seq (x := (fcd Tryz.f20 [1, 1, 0, 0])) (y := (fcd Tryz.f20 [1, 1, 0, 1])) ?_
    refine V_regionX Γ Δ [] [0, 1, 2, 4, 21, 23, 24, 25, 26, 31] (evs ?_)
    have hS := ik_S hc
    all_goals (try with_reducible (repeat' (first | apply And.intro | intro _)))
    all_goals (try (first | with_reducible refine wa_id ?_ | exact True.intro | omega | exact valid06_fn ⟨_, _, _, _⟩))
    refine WA_block (c := (fcd Tryz.f20 [1, 1, 0, 1, 0])) ?_
    refine V_loop (c := (fcd Tryz.f20 [1, 1, 0, 1, 0, 0])) (α := Nat) [2, 4, 25, 26, 31] [4, 13000, 13001, 13002, 13003] (fun k => [(25, .dat (.i (k : Int)))]) (fun k => []) (fun k => k ≤ m.p.length ∧ (m.p.take k).all validP = true) (fun k => m.p.length - k) 0 [] ?_ (evs ?_) ?_
    · exact ⟨Nat.zero_le _, rfl⟩
    · (try with_reducible (repeat' (first | apply And.intro | intro _)))
      all_goals (first | exact True.intro | omega | (first | rfl))
    · intro k hI
      refine WA_seq (x := (fcd Tryz.f20 [1, 1, 0, 1, 0, 0, 0])) (y := (fcd Tryz.f20 [1, 1, 0, 1, 0, 0, 1])) ?_
      refine V_regionX Γ Δ [] [0, 1, 2, 4, 21, 23, 24, 25, 26, 31] (evs ?_)
      all_goals (try with_reducible (repeat' (first | apply And.intro | intro _)))
      all_goals (try (first | with_reducible refine wa_id ?_ | exact True.intro | omega | exact valid06_fn ⟨_, _, _, _⟩))
      refine WA_seq (x := (fcd Tryz.f20 [1, 1, 0, 1, 0, 0, 1, 0])) (y := (fcd Tryz.f20 [1, 1, 0, 1, 0, 0, 1, 1])) ?_
      refine V_cond (evs ?_)
      refine ⟨fun hc => ?_, fun hc => ?_⟩
      · refine WA_skip ?_
        refine WA_seq (x := (fcd Tryz.f20 [1, 1, 0, 1, 0, 0, 1, 1, 0])) (y := (fcd Tryz.f20 [1, 1, 0, 1, 0, 0, 1, 1, 1])) ?_
        refine WA_block (c := (fcd Tryz.f20 [1, 1, 0, 1, 0, 0, 1, 1, 0, 0])) ?_
        refine WA_seq (x := (fcd Tryz.f20 [1, 1, 0, 1, 0, 0, 1, 1, 0, 0, 0])) (y := (fcd Tryz.f20 [1, 1, 0, 1, 0, 0, 1, 1, 0, 0, 1])) ?_
        refine V_regionX Γ Δ [] [0, 1, 2, 4, 21, 23, 24, 25, 26, 31] (evs ?_)
        all_goals (try with_reducible (repeat' (first | apply And.intro | intro _)))
        all_goals (try (first | with_reducible refine wa_id ?_ | exact True.intro | omega | exact valid06_fn ⟨_, _, _, _⟩))
        refine WA_seq (x := (fcd Tryz.f20 [1, 1, 0, 1, 0, 0, 1, 1, 0, 0, 1, 0])) (y := (fcd Tryz.f20 [1, 1, 0, 1, 0, 0, 1, 1, 0, 0, 1, 1])) ?_
        refine V_regionX Γ Δ [] [0, 1, 2, 4, 21, 23, 24, 25, 26, 31] (evs ?_)
        all_goals (try with_reducible (repeat' (first | apply And.intro | intro _)))
        all_goals (try (first | with_reducible refine wa_id ?_ | exact True.intro | exact pvalid6_fn ⟨_, _, _, _⟩ | omega | exact valid06_fn ⟨_, _, _, _⟩))
        refine V_cond (evs ?_)
        refine ⟨fun hc => ?_, fun hc => ?_⟩
        · refine WA_seq (x := (fcd Tryz.f20 [1, 1, 0, 1, 0, 0, 1, 1, 0, 0, 1, 1, 0, 0])) (y := (fcd Tryz.f20 [1, 1, 0, 1, 0, 0, 1, 1, 0, 0, 1, 1, 0, 1])) ?_
          refine V_regionX Γ Δ [] [0, 1, 2, 4, 21, 23, 24, 25, 26, 31] (evs ?_)
          all_goals (try with_reducible (repeat' (first | apply And.intro | intro _)))
          all_goals (try (first | with_reducible refine wa_id ?_ | exact True.intro | omega | exact valid06_fn ⟨_, _, _, _⟩))
          refine V_ret (evs ?_)
          first | exact ik_1 hc | exact ik_3 hS ‹(k : Int) < _› hc | exact ik_4 hS hI.2 hc
        · refine WA_skip ?_
          refine V_regionX Γ Δ [] [0, 1, 2, 4, 21, 23, 24, 25, 26, 31] (evs ?_)
          all_goals (try with_reducible (repeat' (first | apply And.intro | intro _)))
          all_goals (try (first | with_reducible refine wa_id ?_ | exact True.intro | omega | exact valid06_fn ⟨_, _, _, _⟩))
          refine V_next [] (k + 1) (evs ?_) ?_ ?_
          all_goals (try with_reducible (repeat' (first | apply And.intro | intro _)))
          all_goals (first | exact True.intro | omega | (first | exact w64l ‹(k : Int) < _› ‹m.p.length ≤ 281474976710656› | exact ic5 hI.2 ‹(k : Int) < _› hc))
      · refine V_exit (evs ?_)
        refine WA_seq (x := (fcd Tryz.f20 [1, 1, 1, 0])) (y := (fcd Tryz.f20 [1, 1, 1, 1])) ?_
        refine V_regionX Γ Δ [] [0, 1, 2, 4, 21, 23, 24, 25, 26, 31] (evs ?_)
        all_goals (try with_reducible (repeat' (first | apply And.intro | intro _)))
        all_goals (try (first | with_reducible refine wa_id ?_ | exact True.intro | omega | exact valid06_fn ⟨_, _, _, _⟩))
        refine V_ret (evs ?_)
        first | exact ik_1 hc | exact ik_3 hS ‹(k : Int) < _› hc | exact ik_4 hS hI.2 hc

set_option maxRecDepth 100000 in
theorem richeck_fn (m : Im) : Eng.Fn Tryz.prog 36 [imD m] (.dat (.i (ichkE m))) := by
  refine Eng.Fn.by (fn := Tryz.f36) 54 [.tmp 2] Tryz.func36 rfl Tryz.ntmps36 rfl (by simp) fun w0 G0 => ?_
  refine WA_seq (x := (fcd Tryz.f36 [0])) (y := (fcd Tryz.f36 [1])) ?_
  refine V_regionX Γ Δ [] [0, 1, 2, 3, 21, 39, 44, 53] (evs ?_)
  all_goals (try with_reducible (repeat' (first | apply And.intro | intro _)))
  all_goals (try (first | with_reducible refine wa_id ?_ | exact True.intro | omega))
  refine WA_seq (x := (fcd Tryz.f36 [1, 0])) (y := (fcd Tryz.f36 [1, 1])) ?_
  refine WA_seq (x := (fcd Tryz.f36 [1, 0, 0])) (y := (fcd Tryz.f36 [1, 0, 1])) ?_
  refine V_regionX Γ Δ [] [0, 1, 2, 3, 21, 39, 44, 53] (evs ?_)
  all_goals (try with_reducible (repeat' (first | apply And.intro | intro _)))
  all_goals (try (first | with_reducible refine wa_id ?_ | exact True.intro | omega))
  refine V_cond (evs ?_)
  refine ⟨fun hc => ?_, fun hc => ?_⟩
  · refine WA_seq (x := (fcd Tryz.f36 [1, 0, 1, 0, 0])) (y := (fcd Tryz.f36 [1, 0, 1, 0, 1])) ?_
    refine V_regionX Γ Δ [] [0, 1, 2, 3, 21, 39, 44, 53] (evs ?_)
    all_goals (try with_reducible (repeat' (first | apply And.intro | intro _)))
    all_goals (try (first | with_reducible refine wa_id ?_ | exact True.intro | omega))
    refine V_ret (evs ?_)
    first | exact ik_r1 hc | exact ik_r2 hc | exact ik_3 hS ‹(k : Int) < _› hc | exact ik_4 hS hI.2 hc
  · refine WA_skip ?_
    refine WA_seq (x := (fcd Tryz.f36 [1, 1, 0])) (y := (fcd Tryz.f36 [1, 1, 1])) ?_
    refine WA_seq (x := (fcd Tryz.f36 [1, 1, 0, 0])) (y := (fcd Tryz.f36 [1, 1, 0, 1])) ?_
    refine V_regionX Γ Δ [] [0, 1, 2, 3, 21, 39, 44, 53] (evs ?_)
    have hz : Z0 m.w m.h := by unfold Z0; omega
    have hb := nn_bd hz
    have he := nnE hz
    simp (maxSteps := 10000000) (disch := omega) only [w64]
    all_goals (try with_reducible (repeat' (first | apply And.intro | intro _)))
    all_goals (try (first | with_reducible refine wa_id ?_ | exact True.intro | omega))
    refine V_cond (evs ?_)
    refine ⟨fun hc => ?_, fun hc => ?_⟩
    · refine WA_seq (x := (fcd Tryz.f36 [1, 1, 0, 1, 0, 0])) (y := (fcd Tryz.f36 [1, 1, 0, 1, 0, 1])) ?_
      refine V_regionX Γ Δ [] [0, 1, 2, 3, 21, 39, 44, 53] (evs ?_)
      all_goals (try with_reducible (repeat' (first | apply And.intro | intro _)))
      all_goals (try (first | with_reducible refine wa_id ?_ | exact True.intro | omega))
      refine V_ret (evs ?_)
      first | exact ik_r1 hc | exact ik_r2 hc | exact ik_3 hS ‹(k : Int) < _› hc | exact ik_4 hS hI.2 hc
    · refine WA_skip ?_
      refine WA_seq (x := (fcd Tryz.f36 [1, 1, 1, 0])) (y := (fcd Tryz.f36 [1, 1, 1, 1])) ?_
      refine WA_seq (x := (fcd Tryz.f36 [1, 1, 1, 0, 0])) (y := (fcd Tryz.f36 [1, 1, 1, 0, 1])) ?_
      refine V_regionX Γ Δ [] [0, 1, 2, 3, 21, 39, 44, 53] (evs ?_)
      have hS := ik_rS ‹_› hc
      all_goals (try with_reducible (repeat' (first | apply And.intro | intro _)))
      all_goals (try (first | with_reducible refine wa_id ?_ | exact True.intro | omega))
      refine WA_block (c := (fcd Tryz.f36 [1, 1, 1, 0, 1, 0])) ?_
      refine V_loop (c := (fcd Tryz.f36 [1, 1, 1, 0, 1, 0, 0])) (α := Nat) [2, 3, 44, 53] [15200, 15201, 15202, 15203] (fun k => [(3, .dat (.i (k : Int)))]) (fun k => []) (fun k => k ≤ m.p.length ∧ (m.p.take k).all validP = true) (fun k => m.p.length - k) 0 [] ?_ (evs ?_) ?_
      · exact ⟨Nat.zero_le _, rfl⟩
      · (try with_reducible (repeat' (first | apply And.intro | intro _)))
        all_goals (first | exact True.intro | omega | (first | rfl))
      · intro k hI
        refine WA_seq (x := (fcd Tryz.f36 [1, 1, 1, 0, 1, 0, 0, 0])) (y := (fcd Tryz.f36 [1, 1, 1, 0, 1, 0, 0, 1])) ?_
        refine WA_seq (x := (fcd Tryz.f36 [1, 1, 1, 0, 1, 0, 0, 0, 0])) (y := (fcd Tryz.f36 [1, 1, 1, 0, 1, 0, 0, 0, 1])) ?_
        refine V_regionX Γ Δ [] [0, 1, 2, 3, 21, 39, 44, 53] (evs ?_)
        all_goals (try with_reducible (repeat' (first | apply And.intro | intro _)))
        all_goals (try (first | with_reducible refine wa_id ?_ | exact True.intro | omega))
        refine V_cond (evs ?_)
        refine ⟨fun hc => ?_, fun hc => ?_⟩
        · refine WA_skip ?_
          refine WA_seq (x := (fcd Tryz.f36 [1, 1, 1, 0, 1, 0, 0, 1, 0])) (y := (fcd Tryz.f36 [1, 1, 1, 0, 1, 0, 0, 1, 1])) ?_
          refine WA_block (c := (fcd Tryz.f36 [1, 1, 1, 0, 1, 0, 0, 1, 0, 0])) ?_
          refine WA_seq (x := (fcd Tryz.f36 [1, 1, 1, 0, 1, 0, 0, 1, 0, 0, 0])) (y := (fcd Tryz.f36 [1, 1, 1, 0, 1, 0, 0, 1, 0, 0, 1])) ?_
          refine V_regionX Γ Δ [] [0, 1, 2, 3, 21, 39, 44, 53] (evs ?_)
          all_goals (try with_reducible (repeat' (first | apply And.intro | intro _)))
          all_goals (try (first | with_reducible refine wa_id ?_ | exact True.intro | exact rvalid6_fn ⟨_, _, _, _⟩ | omega))
          refine V_cond (evs ?_)
          refine ⟨fun hc => ?_, fun hc => ?_⟩
          · refine WA_seq (x := (fcd Tryz.f36 [1, 1, 1, 0, 1, 0, 0, 1, 0, 0, 1, 0, 0])) (y := (fcd Tryz.f36 [1, 1, 1, 0, 1, 0, 0, 1, 0, 0, 1, 0, 1])) ?_
            refine V_regionX Γ Δ [] [0, 1, 2, 3, 21, 39, 44, 53] (evs ?_)
            all_goals (try with_reducible (repeat' (first | apply And.intro | intro _)))
            all_goals (try (first | with_reducible refine wa_id ?_ | exact True.intro | omega))
            refine V_ret (evs ?_)
            first | exact ik_r1 hc | exact ik_r2 hc | exact ik_3 hS ‹(k : Int) < _› hc | exact ik_4 hS hI.2 hc
          · refine WA_skip ?_
            refine V_regionX Γ Δ [] [0, 1, 2, 3, 21, 39, 44, 53] (evs ?_)
            all_goals (try with_reducible (repeat' (first | apply And.intro | intro _)))
            all_goals (try (first | with_reducible refine wa_id ?_ | exact True.intro | omega))
            refine V_next [] (k + 1) (evs ?_) ?_ ?_
            all_goals (try with_reducible (repeat' (first | apply And.intro | intro _)))
            all_goals (first | exact True.intro | omega | (first | exact w64l ‹(k : Int) < _› ‹m.p.length ≤ 281474976710656› | exact ic5 hI.2 ‹(k : Int) < _› hc))
        · refine V_exit (evs ?_)
          refine WA_seq (x := (fcd Tryz.f36 [1, 1, 1, 1, 0])) (y := (fcd Tryz.f36 [1, 1, 1, 1, 1])) ?_
          refine V_regionX Γ Δ [] [0, 1, 2, 3, 21, 39, 44, 53] (evs ?_)
          all_goals (try with_reducible (repeat' (first | apply And.intro | intro _)))
          all_goals (try (first | with_reducible refine wa_id ?_ | exact True.intro | omega))
          refine V_ret (evs ?_)
          first | exact ik_r1 hc | exact ik_r2 hc | exact ik_3 hS ‹(k : Int) < _› hc | exact ik_4 hS hI.2 hc

end Go.S35

