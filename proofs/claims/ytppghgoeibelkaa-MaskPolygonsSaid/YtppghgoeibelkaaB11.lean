import Derived.Test.YtppghgoeibelkaaLE
import Derived.Test.YtppghgoeibelkaaF23
set_option linter.unusedSimpArgs false
set_option linter.unusedVariables false
namespace Go.S23
open Go.RowKit Go.Proofs Go.Eng Go.Rect
/-- imageeditor/mask.binomials -/
theorem bin_fn (n : Int) (hn : 0 ≤ n ∧ n ≤ 14) : Eng.Fn Try.prog 62 [.i n] (.own 3 1 ((tab (n.toNat + 1) (pF n.toNat)).map iC)) := by
  obtain ⟨k, rfl⟩ : ∃ k : Nat, n = (k : Int) := ⟨n.toNat, by omega⟩
  have hk : k ≤ 14 := by omega
  simp only [Int.toNat_natCast]
  refine Eng.Fn.by (fn := Try.f62) 31 [.tmp 2] Try.func62 rfl Try.ntmps62 rfl (by simp) fun w0 => ?_
  refine WA_seq (x := (fcd Try.f62 [0])) (y := (fcd Try.f62 [1])) ?_
  refine V_regionX Γ Δ [] [0, 2, 3, 4, 12] (evs ?_)
  all_goals (try with_reducible (repeat' (first | apply And.intro | intro _)))
  all_goals (try (first | with_reducible refine wa_id ?_ | exact True.intro | omega))
  refine WA_seq (x := (fcd Try.f62 [1, 0])) (y := (fcd Try.f62 [1, 1])) ?_
  refine V_regionX Γ Δ [] [0, 2, 3, 4, 12] (evs ?_)
  simp (maxSteps := 10000000) (disch := omega) only [w64]
  simp only [toN1]
  all_goals (try with_reducible (repeat' (first | apply And.intro | intro _)))
  all_goals (try (first | with_reducible refine wa_id ?_ | exact True.intro | omega))
  refine WA_seq (x := (fcd Try.f62 [1, 1, 0])) (y := (fcd Try.f62 [1, 1, 1])) ?_
  refine V_regionX Γ Δ [] [0, 2, 3, 4, 12] (evs ?_)
  all_goals (try with_reducible (repeat' (first | apply And.intro | intro _)))
  all_goals (try (first | with_reducible refine wa_id ?_ | exact True.intro | omega))
  refine WA_seq (x := (fcd Try.f62 [1, 1, 1, 0])) (y := (fcd Try.f62 [1, 1, 1, 1])) ?_
  refine WA_seq (x := (fcd Try.f62 [1, 1, 1, 0, 0])) (y := (fcd Try.f62 [1, 1, 1, 0, 1])) ?_
  refine V_regionX Γ Δ [] [0, 2, 3, 4, 12] (evs ?_)
  all_goals (try with_reducible (repeat' (first | apply And.intro | intro _)))
  all_goals (try (first | with_reducible refine wa_id ?_ | exact True.intro | omega))
  refine WA_block (c := (fcd Try.f62 [1, 1, 1, 0, 1, 0])) ?_
  refine V_loop (c := (fcd Try.f62 [1, 1, 1, 0, 1, 0, 0])) (α := Nat) [4, 12] [7] (fun i => [(4, .dat (.i (i : Int)))]) (fun i => [(7, some (true, .arr 3 1 ((fil (k + 1) (pF k) i).map iC)))]) (fun i => 1 ≤ i ∧ i ≤ k + 1) (fun i => k + 1 - i) 1 [] ?_ (evs ?_) ?_
  · omega
  · (try with_reducible (repeat' (first | apply And.intro | intro _)))
    all_goals (first | exact True.intro | omega | (first | exact bin_1 hk | rfl))
  · intro i hI
    refine WA_seq (x := (fcd Try.f62 [1, 1, 1, 0, 1, 0, 0, 0])) (y := (fcd Try.f62 [1, 1, 1, 0, 1, 0, 0, 1])) ?_
    refine WA_seq (x := (fcd Try.f62 [1, 1, 1, 0, 1, 0, 0, 0, 0])) (y := (fcd Try.f62 [1, 1, 1, 0, 1, 0, 0, 0, 1])) ?_
    refine V_regionX Γ Δ [] [0, 2, 3, 4, 12] (evs ?_)
    all_goals (try with_reducible (repeat' (first | apply And.intro | intro _)))
    all_goals (try (first | with_reducible refine wa_id ?_ | exact True.intro | omega))
    refine V_cond (evs ?_)
    refine ⟨fun hc => ?_, fun hc => ?_⟩
    · refine WA_skip ?_
      refine WA_seq (x := (fcd Try.f62 [1, 1, 1, 0, 1, 0, 0, 1, 0])) (y := (fcd Try.f62 [1, 1, 1, 0, 1, 0, 0, 1, 1])) ?_
      refine WA_block (c := (fcd Try.f62 [1, 1, 1, 0, 1, 0, 0, 1, 0, 0])) ?_
      refine V_regionX Γ Δ [] [0, 2, 3, 4, 12] (evs ?_)
      simp (maxSteps := 10000000) (disch := omega) only [w64]
      simp only [bnS hk hI.1 ‹(i : Int) ≤ _›]
      have hpb := pas_bd hk i
      simp (maxSteps := 10000000) (disch := omega) only [w64]
      all_goals (try with_reducible (repeat' (first | apply And.intro | intro _)))
      all_goals (try (first | with_reducible refine wa_id ?_ | exact True.intro | omega))
      refine V_regionX Γ Δ [] [0, 2, 3, 4, 12] (evs ?_)
      all_goals (try with_reducible (repeat' (first | apply And.intro | intro _)))
      all_goals (try (first | with_reducible refine wa_id ?_ | exact True.intro | omega))
      refine V_next [] (i + 1) (evs ?_) ?_ ?_
      all_goals (try with_reducible (repeat' (first | apply And.intro | intro _)))
      all_goals (first | exact True.intro | omega | (first | exact w64l (n := 20) (by omega) (by omega) | exact fil_setI rfl))
    · refine V_exit (evs ?_)
      refine WA_seq (x := (fcd Try.f62 [1, 1, 1, 1, 0])) (y := (fcd Try.f62 [1, 1, 1, 1, 1])) ?_
      refine V_regionX Γ Δ [] [0, 2, 3, 4, 12] (evs ?_)
      all_goals (try with_reducible (repeat' (first | apply And.intro | intro _)))
      all_goals (try (first | with_reducible refine wa_id ?_ | exact True.intro | omega))
      refine V_ret (evs ?_)
      first | (rw [fil_all (by omega)]; done) | (rw [fil_all (by omega)]; exact ⟨rfl, rfl⟩)

/-- imageeditor/imageeditorref23.binomial -/
theorem rbin_fn (n : Int) (hn : 0 ≤ n ∧ n ≤ 14) : Eng.Fn Try.prog 63 [.i n] (.own 3 1 ((tab (n.toNat + 1) (pF n.toNat)).map iC)) := by
  obtain ⟨k, rfl⟩ : ∃ k : Nat, n = (k : Int) := ⟨n.toNat, by omega⟩
  have hk : k ≤ 14 := by omega
  simp only [Int.toNat_natCast]
  refine Eng.Fn.by (fn := Try.f63) 37 [.tmp 2] Try.func63 rfl Try.ntmps63 rfl (by simp) fun w0 => ?_
  refine WA_seq (x := (fcd Try.f63 [0])) (y := (fcd Try.f63 [1])) ?_
  refine V_regionX Γ Δ [31, 34] [0, 2, 3, 4, 5, 6, 10, 17] (evs ?_)
  all_goals (try with_reducible (repeat' (first | apply And.intro | intro _)))
  all_goals (try (first | with_reducible refine wa_id ?_ | exact True.intro | omega | (rw [tab_len]; omega)))
  refine WA_seq (x := (fcd Try.f63 [1, 0])) (y := (fcd Try.f63 [1, 1])) ?_
  refine V_regionX Γ Δ [31, 34] [0, 2, 3, 4, 5, 6, 10, 17] (evs ?_)
  all_goals (try with_reducible (repeat' (first | apply And.intro | intro _)))
  all_goals (try (first | with_reducible refine wa_id ?_ | exact True.intro | omega | (rw [tab_len]; omega)))
  refine WA_seq (x := (fcd Try.f63 [1, 1, 0])) (y := (fcd Try.f63 [1, 1, 1])) ?_
  refine WA_seq (x := (fcd Try.f63 [1, 1, 0, 0])) (y := (fcd Try.f63 [1, 1, 0, 1])) ?_
  refine V_regionX Γ Δ [31, 34] [0, 2, 3, 4, 5, 6, 10, 17] (evs ?_)
  all_goals (try with_reducible (repeat' (first | apply And.intro | intro _)))
  all_goals (try (first | with_reducible refine wa_id ?_ | exact True.intro | omega | (rw [tab_len]; omega)))
  refine WA_block (c := (fcd Try.f63 [1, 1, 0, 1, 0])) ?_
  refine V_loop (c := (fcd Try.f63 [1, 1, 0, 1, 0, 0])) (α := Nat) [3, 4, 5, 6, 10, 17] [7, 13, 31, 32, 34, 35] (fun j => [(4, .dat (.i (j : Int))), (3, .vw 20000 0 (j + 1) 1)]) (fun j => [(20000, some (true, .arr 3 1 ((tab (j + 1) (pF j)).map iC)))]) (fun j => j ≤ k) (fun j => k - j) 0 [(20000, some 7)] ?_ (evs ?_) ?_
  · exact Nat.zero_le _
  · (try with_reducible (repeat' (first | apply And.intro | intro _)))
    all_goals (first | exact True.intro | omega | (first | exact tab1 (k := 0) (by omega) | rfl))
  · intro j hJ
    refine WA_seq (x := (fcd Try.f63 [1, 1, 0, 1, 0, 0, 0])) (y := (fcd Try.f63 [1, 1, 0, 1, 0, 0, 1])) ?_
    refine WA_seq (x := (fcd Try.f63 [1, 1, 0, 1, 0, 0, 0, 0])) (y := (fcd Try.f63 [1, 1, 0, 1, 0, 0, 0, 1])) ?_
    refine V_regionX Γ Δ [31, 34] [0, 2, 3, 4, 5, 6, 10, 17] (evs ?_)
    all_goals (try with_reducible (repeat' (first | apply And.intro | intro _)))
    all_goals (try (first | with_reducible refine wa_id ?_ | exact True.intro | omega | (rw [tab_len]; omega)))
    refine V_cond (evs ?_)
    refine ⟨fun hc => ?_, fun hc => ?_⟩
    · refine WA_skip ?_
      refine WA_seq (x := (fcd Try.f63 [1, 1, 0, 1, 0, 0, 1, 0])) (y := (fcd Try.f63 [1, 1, 0, 1, 0, 0, 1, 1])) ?_
      refine WA_block (c := (fcd Try.f63 [1, 1, 0, 1, 0, 0, 1, 0, 0])) ?_
      refine WA_seq (x := (fcd Try.f63 [1, 1, 0, 1, 0, 0, 1, 0, 0, 0])) (y := (fcd Try.f63 [1, 1, 0, 1, 0, 0, 1, 0, 0, 1])) ?_
      refine V_regionX Γ Δ [31, 34] [0, 2, 3, 4, 5, 6, 10, 17] (evs ?_)
      all_goals (try with_reducible (repeat' (first | apply And.intro | intro _)))
      all_goals (try (first | with_reducible refine wa_id ?_ | exact True.intro | omega | (rw [tab_len]; omega)))
      refine WA_seq (x := (fcd Try.f63 [1, 1, 0, 1, 0, 0, 1, 0, 0, 1, 0])) (y := (fcd Try.f63 [1, 1, 0, 1, 0, 0, 1, 0, 0, 1, 1])) ?_
      refine WA_seq (x := (fcd Try.f63 [1, 1, 0, 1, 0, 0, 1, 0, 0, 1, 0, 0])) (y := (fcd Try.f63 [1, 1, 0, 1, 0, 0, 1, 0, 0, 1, 0, 1])) ?_
      refine V_regionX Γ Δ [31, 34] [0, 2, 3, 4, 5, 6, 10, 17] (evs ?_)
      all_goals (try with_reducible (repeat' (first | apply And.intro | intro _)))
      all_goals (try (first | with_reducible refine wa_id ?_ | exact True.intro | omega | (rw [tab_len]; omega)))
      refine WA_block (c := (fcd Try.f63 [1, 1, 0, 1, 0, 0, 1, 0, 0, 1, 0, 1, 0])) ?_
      refine V_loop (c := (fcd Try.f63 [1, 1, 0, 1, 0, 0, 1, 0, 0, 1, 0, 1, 0, 0])) (α := Nat) [5, 6, 17] [13, 31, 32] (fun i => [(6, .dat (.i (i : Int))), (5, .vw 20001 0 i 1)]) (fun i => [(20001, some (true, .arr 3 1 ((tab i (pF (j + 1))).map iC)))]) (fun i => 1 ≤ i ∧ i ≤ j + 1) (fun i => j + 1 - i) 1 [(20001, some 13)] ?_ (evs ?_) ?_
      · omega
      · (try with_reducible (repeat' (first | apply And.intro | intro _)))
        all_goals (first | exact True.intro | omega | (first | exact tab1 (k := j + 1) (by omega) | rfl))
      · intro i hI
        refine WA_seq (x := (fcd Try.f63 [1, 1, 0, 1, 0, 0, 1, 0, 0, 1, 0, 1, 0, 0, 0])) (y := (fcd Try.f63 [1, 1, 0, 1, 0, 0, 1, 0, 0, 1, 0, 1, 0, 0, 1])) ?_
        refine WA_seq (x := (fcd Try.f63 [1, 1, 0, 1, 0, 0, 1, 0, 0, 1, 0, 1, 0, 0, 0, 0])) (y := (fcd Try.f63 [1, 1, 0, 1, 0, 0, 1, 0, 0, 1, 0, 1, 0, 0, 0, 1])) ?_
        refine V_regionX Γ Δ [31, 34] [0, 2, 3, 4, 5, 6, 10, 17] (evs ?_)
        all_goals (try with_reducible (repeat' (first | apply And.intro | intro _)))
        all_goals (try (first | with_reducible refine wa_id ?_ | exact True.intro | omega | (rw [tab_len]; omega)))
        refine V_cond (evs ?_)
        refine ⟨fun hc => ?_, fun hc => ?_⟩
        · refine WA_skip ?_
          refine WA_seq (x := (fcd Try.f63 [1, 1, 0, 1, 0, 0, 1, 0, 0, 1, 0, 1, 0, 0, 1, 0])) (y := (fcd Try.f63 [1, 1, 0, 1, 0, 0, 1, 0, 0, 1, 0, 1, 0, 0, 1, 1])) ?_
          refine WA_block (c := (fcd Try.f63 [1, 1, 0, 1, 0, 0, 1, 0, 0, 1, 0, 1, 0, 0, 1, 0, 0])) ?_
          refine V_draw Γ [31, 34] [0, 2, 3, 4, 5, 6, 10, 17] mixed (by kernel_rfl) (evs ?_)
          have t1 := tab_b (k := j) (by omega) (j + 1) ((i : Int) - 1).toNat
          have t2 := tab_b (k := j) (by omega) (j + 1) i
          simp (maxSteps := 10000000) (disch := omega) only [w64]
          all_goals (try with_reducible (repeat' (first | apply And.intro | intro _)))
          all_goals (try (first | with_reducible refine wa_id ?_ | exact True.intro | omega | (rw [tab_len]; omega)))
          simp only [bn_next (k := j) (by omega) hI.1 ‹(i : Int) < _›]
          refine V_regionX Γ Δ [31, 34] [0, 2, 3, 4, 5, 6, 10, 17] (evs ?_)
          all_goals (try with_reducible (repeat' (first | apply And.intro | intro _)))
          all_goals (try (first | with_reducible refine wa_id ?_ | exact True.intro | omega | (rw [tab_len]; omega)))
          refine V_next [(20001, some 32)] (i + 1) (evs ?_) ?_ ?_
          all_goals (try with_reducible (repeat' (first | apply And.intro | intro _)))
          all_goals (first | exact True.intro | omega | (first | exact w64l (n := 20) (by omega) (by omega) | exact tab_app rfl))
        · refine V_exit (evs ?_)
          refine V_regionX Γ Δ [31, 34] [0, 2, 3, 4, 5, 6, 10, 17] (evs ?_)
          all_goals (try with_reducible (repeat' (first | apply And.intro | intro _)))
          all_goals (try (first | with_reducible refine wa_id ?_ | exact True.intro | omega | (rw [tab_len]; omega)))
          refine V_regionX Γ Δ [31, 34] [0, 2, 3, 4, 5, 6, 10, 17] (evs ?_)
          all_goals (try with_reducible (repeat' (first | apply And.intro | intro _)))
          all_goals (try (first | with_reducible refine wa_id ?_ | exact True.intro | omega | (rw [tab_len]; omega)))
          refine V_next [(20000, some 35)] (j + 1) (evs ?_) ?_ ?_
          all_goals (try with_reducible (repeat' (first | apply And.intro | intro _)))
          all_goals (first | exact True.intro | omega | (first | exact w64l (n := 20) (by omega) (by omega) | exact bn_end (by omega) (by omega) | omega))
    · refine V_exit (evs ?_)
      refine WA_seq (x := (fcd Try.f63 [1, 1, 1, 0])) (y := (fcd Try.f63 [1, 1, 1, 1])) ?_
      refine V_regionX Γ Δ [31, 34] [0, 2, 3, 4, 5, 6, 10, 17] (evs ?_)
      all_goals (try with_reducible (repeat' (first | apply And.intro | intro _)))
      all_goals (try (first | with_reducible refine wa_id ?_ | exact True.intro | omega | (rw [tab_len]; omega)))
      refine V_ret (evs ?_)
      first | (have e : j = k := by omega); subst e; first | rfl | exact ⟨rfl, rfl⟩

end Go.S23

