import Derived.Test.YtppghgoeibelkaaLF
import Derived.Test.YtppghgoeibelkaaB23
import Derived.Test.YtppghgoeibelkaaB10
set_option linter.unusedSimpArgs false
set_option linter.unusedVariables false
namespace Go.S23
open Go.RowKit Go.Proofs Go.Eng Go.Rect
set_option maxHeartbeats 8000000 in
set_option maxRecDepth 100000 in
/-- imageeditor/imageeditorlaw23.MaskGrows -/
theorem l_grows (m : Mk) (t : Int) (ht : 0 ≤ t ∧ t ≤ 255) : Eng.Fn Try.prog 11 [mkD m, .v (.int .u8 t)] (.dat (.b true)) := by
  refine Eng.Fn.by (fn := Try.f11) 117 [.tmp 4] Try.func11 rfl Try.ntmps11 rfl (by simp) fun w0 => ?_
  refine WA_seq (x := (fcd Try.f11 [0])) (y := (fcd Try.f11 [1])) ?_
  refine V_regionX Γ Δ [16, 20, 23, 30, 37, 42, 58, 61, 67, 70, 75, 101, 106, 115] [0, 1, 2, 4, 5, 6, 7, 8, 9, 10, 11, 12, 13, 14, 15, 22, 72, 74, 75, 76, 77, 96] (evs ?_)
  all_goals (try with_reducible (repeat' (first | apply And.intro | intro _)))
  all_goals (try (first | with_reducible refine wa_id ?_ | exact True.intro | omega))
  refine WA_seq (x := (fcd Try.f11 [1, 0])) (y := (fcd Try.f11 [1, 1])) ?_
  refine WA_seq (x := (fcd Try.f11 [1, 0, 0])) (y := (fcd Try.f11 [1, 0, 1])) ?_
  refine V_regionX Γ Δ [16, 20, 23, 30, 37, 42, 58, 61, 67, 70, 75, 101, 106, 115] [0, 1, 2, 4, 5, 6, 7, 8, 9, 10, 11, 12, 13, 14, 15, 22, 72, 74, 75, 76, 77, 96] (evs ?_)
  all_goals (try with_reducible (repeat' (first | apply And.intro | intro _)))
  all_goals (try (first | with_reducible refine wa_id ?_ | exact True.intro | exact awake_fn | exact mcheck_fn ⟨_, _, _⟩ | omega))
  refine V_cond (evs ?_)
  refine ⟨fun hc => ?_, fun hc => ?_⟩
  · refine WA_seq (x := (fcd Try.f11 [1, 0, 1, 0, 0])) (y := (fcd Try.f11 [1, 0, 1, 0, 1])) ?_
    refine V_regionX Γ Δ [16, 20, 23, 30, 37, 42, 58, 61, 67, 70, 75, 101, 106, 115] [0, 1, 2, 4, 5, 6, 7, 8, 9, 10, 11, 12, 13, 14, 15, 22, 72, 74, 75, 76, 77, 96] (evs ?_)
    all_goals (try with_reducible (repeat' (first | apply And.intro | intro _)))
    all_goals (try (first | with_reducible refine wa_id ?_ | exact True.intro | exact awake_fn | omega))
    refine V_ret (evs ?_)
    first | exact True.intro | (exfalso; simp [E1, E2, hm, L1, L2] at hc; done) | (exfalso; have := gw_mono hm hn (k := k) (by omega); omega) | (simp [sameM, E3, E4, E5]; done)
  · refine WA_skip ?_
    refine WA_seq (x := (fcd Try.f11 [1, 1, 0])) (y := (fcd Try.f11 [1, 1, 1])) ?_
    refine V_regionX Γ Δ [16, 20, 23, 30, 37, 42, 58, 61, 67, 70, 75, 101, 106, 115] [0, 1, 2, 4, 5, 6, 7, 8, 9, 10, 11, 12, 13, 14, 15, 22, 72, 74, 75, 76, 77, 96] (evs ?_)
    have hm := hc
    simp (maxSteps := 10000000) (disch := omega) only [w64]
    have hn := tm17 ht
    generalize t.tmod 17 = n at hn ⊢
    all_goals (try with_reducible (repeat' (first | apply And.intro | intro _)))
    all_goals (try (first | with_reducible refine wa_id ?_ | exact True.intro | omega))
    refine WA_seq (x := (fcd Try.f11 [1, 1, 1, 0])) (y := (fcd Try.f11 [1, 1, 1, 1])) ?_
    refine V_regionX Γ Δ [16, 20, 23, 30, 37, 42, 58, 61, 67, 70, 75, 101, 106, 115] [0, 1, 2, 4, 5, 6, 7, 8, 9, 10, 11, 12, 13, 14, 15, 22, 72, 74, 75, 76, 77, 96] (evs ?_)
    all_goals (try with_reducible (repeat' (first | apply And.intro | intro _)))
    all_goals (try (first | with_reducible refine wa_id ?_ | exact True.intro | exact gw_fn ⟨_, _, _⟩ _ | omega))
    refine WA_seq (x := (fcd Try.f11 [1, 1, 1, 1, 0])) (y := (fcd Try.f11 [1, 1, 1, 1, 1])) ?_
    refine V_regionX Γ Δ [16, 20, 23, 30, 37, 42, 58, 61, 67, 70, 75, 101, 106, 115] [0, 1, 2, 4, 5, 6, 7, 8, 9, 10, 11, 12, 13, 14, 15, 22, 72, 74, 75, 76, 77, 96] (evs ?_)
    simp (maxSteps := 10000000) (disch := omega) only [w64]
    simp only [Int.zero_sub]
    all_goals (try with_reducible (repeat' (first | apply And.intro | intro _)))
    all_goals (try (first | with_reducible refine wa_id ?_ | exact True.intro | exact gw_fn ⟨_, _, _⟩ _ | omega))
    refine WA_seq (x := (fcd Try.f11 [1, 1, 1, 1, 1, 0])) (y := (fcd Try.f11 [1, 1, 1, 1, 1, 1])) ?_
    refine V_regionX Γ Δ [16, 20, 23, 30, 37, 42, 58, 61, 67, 70, 75, 101, 106, 115] [0, 1, 2, 4, 5, 6, 7, 8, 9, 10, 11, 12, 13, 14, 15, 22, 72, 74, 75, 76, 77, 96] (evs ?_)
    all_goals (try with_reducible (repeat' (first | apply And.intro | intro _)))
    all_goals (try (first | with_reducible refine wa_id ?_ | exact True.intro | exact inv_fn ⟨_, _, _⟩ | omega))
    refine WA_seq (x := (fcd Try.f11 [1, 1, 1, 1, 1, 1, 0])) (y := (fcd Try.f11 [1, 1, 1, 1, 1, 1, 1])) ?_
    refine WA_seq (x := (fcd Try.f11 [1, 1, 1, 1, 1, 1, 0, 0])) (y := (fcd Try.f11 [1, 1, 1, 1, 1, 1, 0, 1])) ?_
    refine V_regionX Γ Δ [16, 20, 23, 30, 37, 42, 58, 61, 67, 70, 75, 101, 106, 115] [0, 1, 2, 4, 5, 6, 7, 8, 9, 10, 11, 12, 13, 14, 15, 22, 72, 74, 75, 76, 77, 96] (evs ?_)
    have E1 := (gw_eq hm (n := n) (by omega)).2
    have E2 := (gw_eq hm (n := -n) (by omega)).2
    have L1 := (gw_ok hm (n := n) (by omega)).2
    have L2 := (gw_ok hm (n := -n) (by omega)).2
    have E3 := (gw_eq (inv_ok hm) (n := n) (by omega)).2
    have E4 := (gw_ok (inv_ok hm) (n := n) (by omega)).1
    have E5 := gw_dual hm hn
    all_goals (try with_reducible (repeat' (first | apply And.intro | intro _)))
    all_goals (try (first | with_reducible refine wa_id ?_ | exact True.intro | omega))
    refine V_cond (evs ?_)
    refine ⟨fun hc => ?_, fun hc => ?_⟩
    · refine WA_seq (x := (fcd Try.f11 [1, 1, 1, 1, 1, 1, 0, 1, 0, 0])) (y := (fcd Try.f11 [1, 1, 1, 1, 1, 1, 0, 1, 0, 1])) ?_
      refine V_regionX Γ Δ [16, 20, 23, 30, 37, 42, 58, 61, 67, 70, 75, 101, 106, 115] [0, 1, 2, 4, 5, 6, 7, 8, 9, 10, 11, 12, 13, 14, 15, 22, 72, 74, 75, 76, 77, 96] (evs ?_)
      all_goals (try with_reducible (repeat' (first | apply And.intro | intro _)))
      all_goals (try (first | with_reducible refine wa_id ?_ | exact True.intro | omega))
      refine V_ret (evs ?_)
      first | exact True.intro | (exfalso; simp [E1, E2, hm, L1, L2] at hc; done) | (exfalso; have := gw_mono hm hn (k := k) (by omega); omega) | (simp [sameM, E3, E4, E5]; done)
    · refine WA_skip ?_
      refine WA_seq (x := (fcd Try.f11 [1, 1, 1, 1, 1, 1, 1, 0])) (y := (fcd Try.f11 [1, 1, 1, 1, 1, 1, 1, 1])) ?_
      refine WA_seq (x := (fcd Try.f11 [1, 1, 1, 1, 1, 1, 1, 0, 0])) (y := (fcd Try.f11 [1, 1, 1, 1, 1, 1, 1, 0, 1])) ?_
      refine V_regionX Γ Δ [16, 20, 23, 30, 37, 42, 58, 61, 67, 70, 75, 101, 106, 115] [0, 1, 2, 4, 5, 6, 7, 8, 9, 10, 11, 12, 13, 14, 15, 22, 72, 74, 75, 76, 77, 96] (evs ?_)
      all_goals (try with_reducible (repeat' (first | apply And.intro | intro _)))
      all_goals (try (first | with_reducible refine wa_id ?_ | exact True.intro | omega))
      refine WA_block (c := (fcd Try.f11 [1, 1, 1, 1, 1, 1, 1, 0, 1, 0])) ?_
      refine V_loop (c := (fcd Try.f11 [1, 1, 1, 1, 1, 1, 1, 0, 1, 0, 0])) (α := Nat) [4, 12, 13, 76, 77, 96] [] (fun k => [(76, .dat (.i (k : Int)))]) (fun k => []) (fun k => k ≤ m.v.length) (fun k => m.v.length - k) 0 [] ?_ (evs ?_) ?_
      · exact Nat.zero_le _
      · (try with_reducible (repeat' (first | apply And.intro | intro _)))
        all_goals (first | exact True.intro | omega | (first | rfl))
      · intro k hI
        refine WA_seq (x := (fcd Try.f11 [1, 1, 1, 1, 1, 1, 1, 0, 1, 0, 0, 0])) (y := (fcd Try.f11 [1, 1, 1, 1, 1, 1, 1, 0, 1, 0, 0, 1])) ?_
        refine V_regionX Γ Δ [16, 20, 23, 30, 37, 42, 58, 61, 67, 70, 75, 101, 106, 115] [0, 1, 2, 4, 5, 6, 7, 8, 9, 10, 11, 12, 13, 14, 15, 22, 72, 74, 75, 76, 77, 96] (evs ?_)
        all_goals (try with_reducible (repeat' (first | apply And.intro | intro _)))
        all_goals (try (first | with_reducible refine wa_id ?_ | exact True.intro | omega))
        refine WA_seq (x := (fcd Try.f11 [1, 1, 1, 1, 1, 1, 1, 0, 1, 0, 0, 1, 0])) (y := (fcd Try.f11 [1, 1, 1, 1, 1, 1, 1, 0, 1, 0, 0, 1, 1])) ?_
        refine V_cond (evs ?_)
        refine ⟨fun hc => ?_, fun hc => ?_⟩
        · refine WA_skip ?_
          refine WA_seq (x := (fcd Try.f11 [1, 1, 1, 1, 1, 1, 1, 0, 1, 0, 0, 1, 1, 0])) (y := (fcd Try.f11 [1, 1, 1, 1, 1, 1, 1, 0, 1, 0, 0, 1, 1, 1])) ?_
          refine WA_block (c := (fcd Try.f11 [1, 1, 1, 1, 1, 1, 1, 0, 1, 0, 0, 1, 1, 0, 0])) ?_
          refine WA_seq (x := (fcd Try.f11 [1, 1, 1, 1, 1, 1, 1, 0, 1, 0, 0, 1, 1, 0, 0, 0])) (y := (fcd Try.f11 [1, 1, 1, 1, 1, 1, 1, 0, 1, 0, 0, 1, 1, 0, 0, 1])) ?_
          refine V_regionX Γ Δ [16, 20, 23, 30, 37, 42, 58, 61, 67, 70, 75, 101, 106, 115] [0, 1, 2, 4, 5, 6, 7, 8, 9, 10, 11, 12, 13, 14, 15, 22, 72, 74, 75, 76, 77, 96] (evs ?_)
          all_goals (try with_reducible (repeat' (first | apply And.intro | intro _)))
          all_goals (try (first | with_reducible refine wa_id ?_ | exact True.intro | omega))
          refine WA_seq (x := (fcd Try.f11 [1, 1, 1, 1, 1, 1, 1, 0, 1, 0, 0, 1, 1, 0, 0, 1, 0])) (y := (fcd Try.f11 [1, 1, 1, 1, 1, 1, 1, 0, 1, 0, 0, 1, 1, 0, 0, 1, 1])) ?_
          refine V_regionX Γ Δ [16, 20, 23, 30, 37, 42, 58, 61, 67, 70, 75, 101, 106, 115] [0, 1, 2, 4, 5, 6, 7, 8, 9, 10, 11, 12, 13, 14, 15, 22, 72, 74, 75, 76, 77, 96] (evs ?_)
          all_goals (try with_reducible (repeat' (first | apply And.intro | intro _)))
          all_goals (try (first | with_reducible refine wa_id ?_ | exact True.intro | omega))
          refine V_cond (evs ?_)
          refine ⟨fun hc => ?_, fun hc => ?_⟩
          · refine WA_seq (x := (fcd Try.f11 [1, 1, 1, 1, 1, 1, 1, 0, 1, 0, 0, 1, 1, 0, 0, 1, 1, 0, 0])) (y := (fcd Try.f11 [1, 1, 1, 1, 1, 1, 1, 0, 1, 0, 0, 1, 1, 0, 0, 1, 1, 0, 1])) ?_
            refine V_regionX Γ Δ [16, 20, 23, 30, 37, 42, 58, 61, 67, 70, 75, 101, 106, 115] [0, 1, 2, 4, 5, 6, 7, 8, 9, 10, 11, 12, 13, 14, 15, 22, 72, 74, 75, 76, 77, 96] (evs ?_)
            all_goals (try with_reducible (repeat' (first | apply And.intro | intro _)))
            all_goals (try (first | with_reducible refine wa_id ?_ | exact True.intro | omega))
            refine V_ret (evs ?_)
            first | exact True.intro | (exfalso; simp [E1, E2, hm, L1, L2] at hc; done) | (exfalso; have := gw_mono hm hn (k := k) (by omega); omega) | (simp [sameM, E3, E4, E5]; done)
          · refine WA_skip ?_
            refine V_regionX Γ Δ [16, 20, 23, 30, 37, 42, 58, 61, 67, 70, 75, 101, 106, 115] [0, 1, 2, 4, 5, 6, 7, 8, 9, 10, 11, 12, 13, 14, 15, 22, 72, 74, 75, 76, 77, 96] (evs ?_)
            all_goals (try with_reducible (repeat' (first | apply And.intro | intro _)))
            all_goals (try (first | with_reducible refine wa_id ?_ | exact True.intro | omega))
            refine V_next [] (k + 1) (evs ?_) ?_ ?_
            all_goals (try with_reducible (repeat' (first | apply And.intro | intro _)))
            all_goals (first | exact True.intro | omega | (first | exact w64l ‹(k : Int) < _› ‹m.v.length ≤ 281474976710656›))
        · refine V_exit (evs ?_)
          refine WA_seq (x := (fcd Try.f11 [1, 1, 1, 1, 1, 1, 1, 1, 0])) (y := (fcd Try.f11 [1, 1, 1, 1, 1, 1, 1, 1, 1])) ?_
          refine V_regionX Γ Δ [16, 20, 23, 30, 37, 42, 58, 61, 67, 70, 75, 101, 106, 115] [0, 1, 2, 4, 5, 6, 7, 8, 9, 10, 11, 12, 13, 14, 15, 22, 72, 74, 75, 76, 77, 96] (evs ?_)
          all_goals (try with_reducible (repeat' (first | apply And.intro | intro _)))
          all_goals (try (first | with_reducible refine wa_id ?_ | exact True.intro | exact gw_fn ⟨_, _, _⟩ _ | omega))
          refine WA_seq (x := (fcd Try.f11 [1, 1, 1, 1, 1, 1, 1, 1, 1, 0])) (y := (fcd Try.f11 [1, 1, 1, 1, 1, 1, 1, 1, 1, 1])) ?_
          refine V_regionX Γ Δ [16, 20, 23, 30, 37, 42, 58, 61, 67, 70, 75, 101, 106, 115] [0, 1, 2, 4, 5, 6, 7, 8, 9, 10, 11, 12, 13, 14, 15, 22, 72, 74, 75, 76, 77, 96] (evs ?_)
          all_goals (try with_reducible (repeat' (first | apply And.intro | intro _)))
          all_goals (try (first | with_reducible refine wa_id ?_ | exact True.intro | exact inv_fn ⟨_, _, _⟩ | omega))
          refine WA_seq (x := (fcd Try.f11 [1, 1, 1, 1, 1, 1, 1, 1, 1, 1, 0])) (y := (fcd Try.f11 [1, 1, 1, 1, 1, 1, 1, 1, 1, 1, 1])) ?_
          refine V_regionX Γ Δ [16, 20, 23, 30, 37, 42, 58, 61, 67, 70, 75, 101, 106, 115] [0, 1, 2, 4, 5, 6, 7, 8, 9, 10, 11, 12, 13, 14, 15, 22, 72, 74, 75, 76, 77, 96] (evs ?_)
          all_goals (try with_reducible (repeat' (first | apply And.intro | intro _)))
          all_goals (try (first | with_reducible refine wa_id ?_ | exact True.intro | exact is_fn ⟨_, _, _⟩ _ ⟨_, _, _⟩ | omega))
          refine V_ret (evs ?_)
          first | exact True.intro | (exfalso; simp [E1, E2, hm, L1, L2] at hc; done) | (exfalso; have := gw_mono hm hn (k := k) (by omega); omega) | (simp [sameM, E3, E4, E5]; done)

end Go.S23

