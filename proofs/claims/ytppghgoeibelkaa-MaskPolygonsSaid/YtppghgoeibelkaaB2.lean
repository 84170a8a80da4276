import Derived.Test.YtppghgoeibelkaaB1
set_option linter.unusedSimpArgs false
set_option linter.unusedVariables false
namespace Go.S23
open Go.RowKit Go.Proofs Go.Eng Go.Rect
/-- imageeditor/mask.Check -/
theorem mcheck_fn (m : Mk) : Eng.Fn Try.prog 21 [mkD m] (.dat (.i (mchkE m))) := by
  refine Eng.Fn.by (fn := Try.f21) 52 [.tmp 2] Try.func21 rfl Try.ntmps21 rfl (by simp) fun w0 => ?_
  refine WA_seq (x := (fcd Try.f21 [0])) (y := (fcd Try.f21 [1])) ?_
  refine V_regionX Γ Δ [] [0, 1, 2, 4, 22, 40, 42, 43, 44, 45, 50] (evs ?_)
  all_goals (try with_reducible (repeat' (first | apply And.intro | intro _)))
  all_goals (try (first | with_reducible refine wa_id ?_ | exact True.intro | omega))
  refine WA_seq (x := (fcd Try.f21 [1, 0])) (y := (fcd Try.f21 [1, 1])) ?_
  refine WA_seq (x := (fcd Try.f21 [1, 0, 0])) (y := (fcd Try.f21 [1, 0, 1])) ?_
  refine V_regionX Γ Δ [] [0, 1, 2, 4, 22, 40, 42, 43, 44, 45, 50] (evs ?_)
  all_goals (try with_reducible (repeat' (first | apply And.intro | intro _)))
  all_goals (try (first | with_reducible refine wa_id ?_ | exact True.intro | omega))
  refine V_cond (evs ?_)
  refine ⟨fun hc => ?_, fun hc => ?_⟩
  · refine WA_seq (x := (fcd Try.f21 [1, 0, 1, 0, 0])) (y := (fcd Try.f21 [1, 0, 1, 0, 1])) ?_
    refine V_regionX Γ Δ [] [0, 1, 2, 4, 22, 40, 42, 43, 44, 45, 50] (evs ?_)
    all_goals (try with_reducible (repeat' (first | apply And.intro | intro _)))
    all_goals (try (first | with_reducible refine wa_id ?_ | exact True.intro | omega))
    refine V_ret (evs ?_)
    first | exact mc1 hc | exact mc2 hc | exact mc3 hS ‹(k : Int) < _› (uf hc) | exact mc3 hS ‹(k : Int) < _› hc | exact mc4 hS hI.2 hc
  · refine WA_skip ?_
    refine WA_seq (x := (fcd Try.f21 [1, 1, 0])) (y := (fcd Try.f21 [1, 1, 1])) ?_
    refine WA_seq (x := (fcd Try.f21 [1, 1, 0, 0])) (y := (fcd Try.f21 [1, 1, 0, 1])) ?_
    refine V_regionX Γ Δ [] [0, 1, 2, 4, 22, 40, 42, 43, 44, 45, 50] (evs ?_)
    have hz : Z0 m.w m.h := by unfold Z0; omega
    have hb := nn_bd hz
    have he := nnE hz
    simp (maxSteps := 10000000) (disch := omega) only [w64]
    all_goals (try with_reducible (repeat' (first | apply And.intro | intro _)))
    all_goals (try (first | with_reducible refine wa_id ?_ | exact True.intro | omega))
    refine V_cond (evs ?_)
    refine ⟨fun hc => ?_, fun hc => ?_⟩
    · refine WA_seq (x := (fcd Try.f21 [1, 1, 0, 1, 0, 0])) (y := (fcd Try.f21 [1, 1, 0, 1, 0, 1])) ?_
      refine V_regionX Γ Δ [] [0, 1, 2, 4, 22, 40, 42, 43, 44, 45, 50] (evs ?_)
      all_goals (try with_reducible (repeat' (first | apply And.intro | intro _)))
      all_goals (try (first | with_reducible refine wa_id ?_ | exact True.intro | omega))
      refine V_ret (evs ?_)
      first | exact mc1 hc | exact mc2 hc | exact mc3 hS ‹(k : Int) < _› (uf hc) | exact mc3 hS ‹(k : Int) < _› hc | exact mc4 hS hI.2 hc
    · refine WA_skip ?_
      refine WA_seq (x := (fcd Try.f21 [1, 1, 1, 0])) (y := (fcd Try.f21 [1, 1, 1, 1])) ?_
      refine WA_seq (x := (fcd Try.f21 [1, 1, 1, 0, 0])) (y := (fcd Try.f21 [1, 1, 1, 0, 1])) ?_
      refine V_regionX Γ Δ [] [0, 1, 2, 4, 22, 40, 42, 43, 44, 45, 50] (evs ?_)
      have hS := mcS ‹_› hc
      all_goals (try with_reducible (repeat' (first | apply And.intro | intro _)))
      all_goals (try (first | with_reducible refine wa_id ?_ | exact True.intro | omega))
      refine WA_block (c := (fcd Try.f21 [1, 1, 1, 0, 1, 0])) ?_
      refine V_loop (c := (fcd Try.f21 [1, 1, 1, 0, 1, 0, 0])) (α := Nat) [2, 4, 44, 45, 50] [14900, 14901, 14902, 14903] (fun k => [(44, .dat (.i (k : Int)))]) (fun k => []) (fun k => k ≤ m.v.length ∧ (m.v.take k).all unitB = true) (fun k => m.v.length - k) 0 [] ?_ (evs ?_) ?_
      · exact ⟨Nat.zero_le _, rfl⟩
      · (try with_reducible (repeat' (first | apply And.intro | intro _)))
        all_goals (first | exact True.intro | omega | (first | rfl))
      · intro k hI
        refine WA_seq (x := (fcd Try.f21 [1, 1, 1, 0, 1, 0, 0, 0])) (y := (fcd Try.f21 [1, 1, 1, 0, 1, 0, 0, 1])) ?_
        refine V_regionX Γ Δ [] [0, 1, 2, 4, 22, 40, 42, 43, 44, 45, 50] (evs ?_)
        all_goals (try with_reducible (repeat' (first | apply And.intro | intro _)))
        all_goals (try (first | with_reducible refine wa_id ?_ | exact True.intro | omega))
        refine WA_seq (x := (fcd Try.f21 [1, 1, 1, 0, 1, 0, 0, 1, 0])) (y := (fcd Try.f21 [1, 1, 1, 0, 1, 0, 0, 1, 1])) ?_
        refine V_cond (evs ?_)
        refine ⟨fun hc => ?_, fun hc => ?_⟩
        · refine WA_skip ?_
          refine WA_seq (x := (fcd Try.f21 [1, 1, 1, 0, 1, 0, 0, 1, 1, 0])) (y := (fcd Try.f21 [1, 1, 1, 0, 1, 0, 0, 1, 1, 1])) ?_
          refine WA_block (c := (fcd Try.f21 [1, 1, 1, 0, 1, 0, 0, 1, 1, 0, 0])) ?_
          refine WA_seq (x := (fcd Try.f21 [1, 1, 1, 0, 1, 0, 0, 1, 1, 0, 0, 0])) (y := (fcd Try.f21 [1, 1, 1, 0, 1, 0, 0, 1, 1, 0, 0, 1])) ?_
          refine V_regionX Γ Δ [] [0, 1, 2, 4, 22, 40, 42, 43, 44, 45, 50] (evs ?_)
          all_goals (try with_reducible (repeat' (first | apply And.intro | intro _)))
          all_goals (try (first | with_reducible refine wa_id ?_ | exact True.intro | omega))
          refine WA_seq (x := (fcd Try.f21 [1, 1, 1, 0, 1, 0, 0, 1, 1, 0, 0, 1, 0])) (y := (fcd Try.f21 [1, 1, 1, 0, 1, 0, 0, 1, 1, 0, 0, 1, 1])) ?_
          refine V_regionX Γ Δ [] [0, 1, 2, 4, 22, 40, 42, 43, 44, 45, 50] (evs ?_)
          all_goals (try with_reducible (repeat' (first | apply And.intro | intro _)))
          all_goals (try (first | with_reducible refine wa_id ?_ | exact True.intro | exact munit_fn _ | omega))
          refine V_cond (evs ?_)
          refine ⟨fun hc => ?_, fun hc => ?_⟩
          · refine WA_seq (x := (fcd Try.f21 [1, 1, 1, 0, 1, 0, 0, 1, 1, 0, 0, 1, 1, 0, 0])) (y := (fcd Try.f21 [1, 1, 1, 0, 1, 0, 0, 1, 1, 0, 0, 1, 1, 0, 1])) ?_
            refine V_regionX Γ Δ [] [0, 1, 2, 4, 22, 40, 42, 43, 44, 45, 50] (evs ?_)
            all_goals (try with_reducible (repeat' (first | apply And.intro | intro _)))
            all_goals (try (first | with_reducible refine wa_id ?_ | exact True.intro | omega))
            refine V_ret (evs ?_)
            first | exact mc1 hc | exact mc2 hc | exact mc3 hS ‹(k : Int) < _› (uf hc) | exact mc3 hS ‹(k : Int) < _› hc | exact mc4 hS hI.2 hc
          · refine WA_skip ?_
            refine V_regionX Γ Δ [] [0, 1, 2, 4, 22, 40, 42, 43, 44, 45, 50] (evs ?_)
            all_goals (try with_reducible (repeat' (first | apply And.intro | intro _)))
            all_goals (try (first | with_reducible refine wa_id ?_ | exact True.intro | omega))
            refine V_next [] (k + 1) (evs ?_) ?_ ?_
            all_goals (try with_reducible (repeat' (first | apply And.intro | intro _)))
            all_goals (first | exact True.intro | omega | (first | exact w64l ‹(k : Int) < _› ‹m.v.length ≤ 281474976710656› | exact mc5 hI.2 ‹(k : Int) < _› hc | exact mc5 hI.2 ‹(k : Int) < _› (ut hc)))
        · refine V_exit (evs ?_)
          refine WA_seq (x := (fcd Try.f21 [1, 1, 1, 1, 0])) (y := (fcd Try.f21 [1, 1, 1, 1, 1])) ?_
          refine V_regionX Γ Δ [] [0, 1, 2, 4, 22, 40, 42, 43, 44, 45, 50] (evs ?_)
          all_goals (try with_reducible (repeat' (first | apply And.intro | intro _)))
          all_goals (try (first | with_reducible refine wa_id ?_ | exact True.intro | omega))
          refine V_ret (evs ?_)
          first | exact mc1 hc | exact mc2 hc | exact mc3 hS ‹(k : Int) < _› (uf hc) | exact mc3 hS ‹(k : Int) < _› hc | exact mc4 hS hI.2 hc

/-- imageeditor/imageeditorref23.Check -/
theorem rmcheck_fn (m : Mk) : Eng.Fn Try.prog 22 [mkD m] (.dat (.i (mchkE m))) := by
  refine Eng.Fn.by (fn := Try.f22) 61 [.tmp 2] Try.func22 rfl Try.ntmps22 rfl (by simp) fun w0 => ?_
  refine WA_seq (x := (fcd Try.f22 [0])) (y := (fcd Try.f22 [1])) ?_
  refine V_regionX Γ Δ [] [0, 1, 2, 3, 21, 39, 44, 60] (evs ?_)
  all_goals (try with_reducible (repeat' (first | apply And.intro | intro _)))
  all_goals (try (first | with_reducible refine wa_id ?_ | exact True.intro | omega))
  refine WA_seq (x := (fcd Try.f22 [1, 0])) (y := (fcd Try.f22 [1, 1])) ?_
  refine WA_seq (x := (fcd Try.f22 [1, 0, 0])) (y := (fcd Try.f22 [1, 0, 1])) ?_
  refine V_regionX Γ Δ [] [0, 1, 2, 3, 21, 39, 44, 60] (evs ?_)
  all_goals (try with_reducible (repeat' (first | apply And.intro | intro _)))
  all_goals (try (first | with_reducible refine wa_id ?_ | exact True.intro | omega))
  refine V_cond (evs ?_)
  refine ⟨fun hc => ?_, fun hc => ?_⟩
  · refine WA_seq (x := (fcd Try.f22 [1, 0, 1, 0, 0])) (y := (fcd Try.f22 [1, 0, 1, 0, 1])) ?_
    refine V_regionX Γ Δ [] [0, 1, 2, 3, 21, 39, 44, 60] (evs ?_)
    all_goals (try with_reducible (repeat' (first | apply And.intro | intro _)))
    all_goals (try (first | with_reducible refine wa_id ?_ | exact True.intro | omega))
    refine V_ret (evs ?_)
    first | exact mc1 hc | exact mc2 hc | exact mc3 hS ‹(k : Int) < _› (uf hc) | exact mc3 hS ‹(k : Int) < _› hc | exact mc4 hS hI.2 hc
  · refine WA_skip ?_
    refine WA_seq (x := (fcd Try.f22 [1, 1, 0])) (y := (fcd Try.f22 [1, 1, 1])) ?_
    refine WA_seq (x := (fcd Try.f22 [1, 1, 0, 0])) (y := (fcd Try.f22 [1, 1, 0, 1])) ?_
    refine V_regionX Γ Δ [] [0, 1, 2, 3, 21, 39, 44, 60] (evs ?_)
    have hz : Z0 m.w m.h := by unfold Z0; omega
    have hb := nn_bd hz
    have he := nnE hz
    simp (maxSteps := 10000000) (disch := omega) only [w64]
    all_goals (try with_reducible (repeat' (first | apply And.intro | intro _)))
    all_goals (try (first | with_reducible refine wa_id ?_ | exact True.intro | omega))
    refine V_cond (evs ?_)
    refine ⟨fun hc => ?_, fun hc => ?_⟩
    · refine WA_seq (x := (fcd Try.f22 [1, 1, 0, 1, 0, 0])) (y := (fcd Try.f22 [1, 1, 0, 1, 0, 1])) ?_
      refine V_regionX Γ Δ [] [0, 1, 2, 3, 21, 39, 44, 60] (evs ?_)
      all_goals (try with_reducible (repeat' (first | apply And.intro | intro _)))
      all_goals (try (first | with_reducible refine wa_id ?_ | exact True.intro | omega))
      refine V_ret (evs ?_)
      first | exact mc1 hc | exact mc2 hc | exact mc3 hS ‹(k : Int) < _› (uf hc) | exact mc3 hS ‹(k : Int) < _› hc | exact mc4 hS hI.2 hc
    · refine WA_skip ?_
      refine WA_seq (x := (fcd Try.f22 [1, 1, 1, 0])) (y := (fcd Try.f22 [1, 1, 1, 1])) ?_
      refine WA_seq (x := (fcd Try.f22 [1, 1, 1, 0, 0])) (y := (fcd Try.f22 [1, 1, 1, 0, 1])) ?_
      refine V_regionX Γ Δ [] [0, 1, 2, 3, 21, 39, 44, 60] (evs ?_)
      have hS := mcS ‹_› hc
      all_goals (try with_reducible (repeat' (first | apply And.intro | intro _)))
      all_goals (try (first | with_reducible refine wa_id ?_ | exact True.intro | omega))
      refine WA_block (c := (fcd Try.f22 [1, 1, 1, 0, 1, 0])) ?_
      refine V_loop (c := (fcd Try.f22 [1, 1, 1, 0, 1, 0, 0])) (α := Nat) [2, 3, 44, 60] [] (fun k => [(3, .dat (.i (k : Int)))]) (fun k => []) (fun k => k ≤ m.v.length ∧ (m.v.take k).all unitB = true) (fun k => m.v.length - k) 0 [] ?_ (evs ?_) ?_
      · exact ⟨Nat.zero_le _, rfl⟩
      · (try with_reducible (repeat' (first | apply And.intro | intro _)))
        all_goals (first | exact True.intro | omega | (first | rfl))
      · intro k hI
        refine WA_seq (x := (fcd Try.f22 [1, 1, 1, 0, 1, 0, 0, 0])) (y := (fcd Try.f22 [1, 1, 1, 0, 1, 0, 0, 1])) ?_
        refine WA_seq (x := (fcd Try.f22 [1, 1, 1, 0, 1, 0, 0, 0, 0])) (y := (fcd Try.f22 [1, 1, 1, 0, 1, 0, 0, 0, 1])) ?_
        refine V_regionX Γ Δ [] [0, 1, 2, 3, 21, 39, 44, 60] (evs ?_)
        all_goals (try with_reducible (repeat' (first | apply And.intro | intro _)))
        all_goals (try (first | with_reducible refine wa_id ?_ | exact True.intro | omega))
        refine V_cond (evs ?_)
        refine ⟨fun hc => ?_, fun hc => ?_⟩
        · refine WA_skip ?_
          refine WA_seq (x := (fcd Try.f22 [1, 1, 1, 0, 1, 0, 0, 1, 0])) (y := (fcd Try.f22 [1, 1, 1, 0, 1, 0, 0, 1, 1])) ?_
          refine WA_block (c := (fcd Try.f22 [1, 1, 1, 0, 1, 0, 0, 1, 0, 0])) ?_
          refine WA_seq (x := (fcd Try.f22 [1, 1, 1, 0, 1, 0, 0, 1, 0, 0, 0])) (y := (fcd Try.f22 [1, 1, 1, 0, 1, 0, 0, 1, 0, 0, 1])) ?_
          refine V_regionX Γ Δ [] [0, 1, 2, 3, 21, 39, 44, 60] (evs ?_)
          all_goals (try with_reducible (repeat' (first | apply And.intro | intro _)))
          all_goals (try (first | with_reducible refine wa_id ?_ | exact True.intro | omega))
          refine V_cond (evs ?_)
          refine ⟨fun hc => ?_, fun hc => ?_⟩
          · refine WA_seq (x := (fcd Try.f22 [1, 1, 1, 0, 1, 0, 0, 1, 0, 0, 1, 0, 0])) (y := (fcd Try.f22 [1, 1, 1, 0, 1, 0, 0, 1, 0, 0, 1, 0, 1])) ?_
            refine V_regionX Γ Δ [] [0, 1, 2, 3, 21, 39, 44, 60] (evs ?_)
            all_goals (try with_reducible (repeat' (first | apply And.intro | intro _)))
            all_goals (try (first | with_reducible refine wa_id ?_ | exact True.intro | omega))
            refine V_ret (evs ?_)
            first | exact mc1 hc | exact mc2 hc | exact mc3 hS ‹(k : Int) < _› (uf hc) | exact mc3 hS ‹(k : Int) < _› hc | exact mc4 hS hI.2 hc
          · refine WA_skip ?_
            refine V_regionX Γ Δ [] [0, 1, 2, 3, 21, 39, 44, 60] (evs ?_)
            all_goals (try with_reducible (repeat' (first | apply And.intro | intro _)))
            all_goals (try (first | with_reducible refine wa_id ?_ | exact True.intro | omega))
            refine V_next [] (k + 1) (evs ?_) ?_ ?_
            all_goals (try with_reducible (repeat' (first | apply And.intro | intro _)))
            all_goals (first | exact True.intro | omega | (first | exact w64l ‹(k : Int) < _› ‹m.v.length ≤ 281474976710656› | exact mc5 hI.2 ‹(k : Int) < _› hc | exact mc5 hI.2 ‹(k : Int) < _› (ut hc)))
        · refine V_exit (evs ?_)
          refine WA_seq (x := (fcd Try.f22 [1, 1, 1, 1, 0])) (y := (fcd Try.f22 [1, 1, 1, 1, 1])) ?_
          refine V_regionX Γ Δ [] [0, 1, 2, 3, 21, 39, 44, 60] (evs ?_)
          all_goals (try with_reducible (repeat' (first | apply And.intro | intro _)))
          all_goals (try (first | with_reducible refine wa_id ?_ | exact True.intro | omega))
          refine V_ret (evs ?_)
          first | exact mc1 hc | exact mc2 hc | exact mc3 hS ‹(k : Int) < _› (uf hc) | exact mc3 hS ‹(k : Int) < _› hc | exact mc4 hS hI.2 hc

/-- imageeditor/mask.even -/
theorem even_fn (w h v : Int) (hz : Z0 w h) : Eng.Fn Try.prog 48 [.i w, .i h, .i v] (.agg [.dat (.i w), .dat (.i h), .own 3 1 ((tab (nn w h) (gF w.toNat fun _ _ => v)).map iC)]) := by
  have hb := nn_bd hz
  refine Eng.Fn.by (fn := Try.f48) 25 [.cell 6 24] Try.func48 rfl Try.ntmps48 rfl (by simp) fun w0 => ?_
  refine WA_seq (x := (fcd Try.f48 [0])) (y := (fcd Try.f48 [1])) ?_
  refine V_regionX Γ Δ [] [0, 1, 2, 6, 7, 8, 14, 15, 16] (evs ?_)
  all_goals (try with_reducible (repeat' (first | apply And.intro | intro _)))
  all_goals (try (first | with_reducible refine wa_id ?_ | exact True.intro | omega))
  refine WA_seq (x := (fcd Try.f48 [1, 0])) (y := (fcd Try.f48 [1, 1])) ?_
  refine V_regionX Γ Δ [] [0, 1, 2, 6, 7, 8, 14, 15, 16] (evs ?_)
  all_goals (try with_reducible (repeat' (first | apply And.intro | intro _)))
  all_goals (try (first | with_reducible refine wa_id ?_ | exact True.intro | exact blank_fn _ _ hz | omega))
  refine WA_seq (x := (fcd Try.f48 [1, 1, 0])) (y := (fcd Try.f48 [1, 1, 1])) ?_
  refine WA_seq (x := (fcd Try.f48 [1, 1, 0, 0])) (y := (fcd Try.f48 [1, 1, 0, 1])) ?_
  refine V_regionX Γ Δ [] [0, 1, 2, 6, 7, 8, 14, 15, 16] (evs ?_)
  all_goals (try with_reducible (repeat' (first | apply And.intro | intro _)))
  all_goals (try (first | with_reducible refine wa_id ?_ | exact True.intro | omega))
  refine WA_block (c := (fcd Try.f48 [1, 1, 0, 1, 0])) ?_
  refine V_loop (c := (fcd Try.f48 [1, 1, 0, 1, 0, 0])) (α := Nat) [8, 15, 16] [11100] (fun k => [(15, .dat (.i (k : Int)))]) (fun k => [(11100, some (true, .arr 3 1 ((fil (nn w h) (gF w.toNat fun _ _ => v) k).map iC)))]) (fun k => k ≤ nn w h) (fun k => nn w h - k) 0 [] ?_ (evs ?_) ?_
  · exact Nat.zero_le _
  · (try with_reducible (repeat' (first | apply And.intro | intro _)))
    all_goals (first | exact True.intro | omega | (first | exact fil_0I _ _ | rfl))
  · intro k hI
    refine WA_seq (x := (fcd Try.f48 [1, 1, 0, 1, 0, 0, 0])) (y := (fcd Try.f48 [1, 1, 0, 1, 0, 0, 1])) ?_
    refine V_regionX Γ Δ [] [0, 1, 2, 6, 7, 8, 14, 15, 16] (evs ?_)
    all_goals (try with_reducible (repeat' (first | apply And.intro | intro _)))
    all_goals (try (first | with_reducible refine wa_id ?_ | exact True.intro | omega))
    refine WA_seq (x := (fcd Try.f48 [1, 1, 0, 1, 0, 0, 1, 0])) (y := (fcd Try.f48 [1, 1, 0, 1, 0, 0, 1, 1])) ?_
    refine V_cond (evs ?_)
    refine ⟨fun hc => ?_, fun hc => ?_⟩
    · refine WA_skip ?_
      refine WA_seq (x := (fcd Try.f48 [1, 1, 0, 1, 0, 0, 1, 1, 0])) (y := (fcd Try.f48 [1, 1, 0, 1, 0, 0, 1, 1, 1])) ?_
      refine WA_block (c := (fcd Try.f48 [1, 1, 0, 1, 0, 0, 1, 1, 0, 0])) ?_
      refine WA_seq (x := (fcd Try.f48 [1, 1, 0, 1, 0, 0, 1, 1, 0, 0, 0])) (y := (fcd Try.f48 [1, 1, 0, 1, 0, 0, 1, 1, 0, 0, 1])) ?_
      refine V_regionX Γ Δ [] [0, 1, 2, 6, 7, 8, 14, 15, 16] (evs ?_)
      all_goals (try with_reducible (repeat' (first | apply And.intro | intro _)))
      all_goals (try (first | with_reducible refine wa_id ?_ | exact True.intro | omega))
      refine V_regionX Γ Δ [] [0, 1, 2, 6, 7, 8, 14, 15, 16] (evs ?_)
      all_goals (try with_reducible (repeat' (first | apply And.intro | intro _)))
      all_goals (try (first | with_reducible refine wa_id ?_ | exact True.intro | omega))
      refine V_regionX Γ Δ [] [0, 1, 2, 6, 7, 8, 14, 15, 16] (evs ?_)
      all_goals (try with_reducible (repeat' (first | apply And.intro | intro _)))
      all_goals (try (first | with_reducible refine wa_id ?_ | exact True.intro | omega))
      refine V_next [] (k + 1) (evs ?_) ?_ ?_
      all_goals (try with_reducible (repeat' (first | apply And.intro | intro _)))
      all_goals (first | exact True.intro | omega | (first | exact w64l (n := 65536) (by omega) (by omega) | exact fil_setI rfl))
    · refine V_exit (evs ?_)
      refine WA_seq (x := (fcd Try.f48 [1, 1, 1, 0])) (y := (fcd Try.f48 [1, 1, 1, 1])) ?_
      refine V_regionX Γ Δ [] [0, 1, 2, 6, 7, 8, 14, 15, 16] (evs ?_)
      all_goals (try with_reducible (repeat' (first | apply And.intro | intro _)))
      all_goals (try (first | with_reducible refine wa_id ?_ | exact True.intro | omega))
      refine V_ret (evs ?_)
      first | (rw [fil_all (by omega)]; done) | (rw [fil_all (by omega)]; exact ⟨rfl, rfl⟩)

end Go.S23

