import Derived.Test.YtppghgoeibelkaaB1
set_option linter.unusedSimpArgs false
set_option linter.unusedVariables false
namespace Go.S23
open Go.RowKit Go.Proofs Go.Eng Go.Rect
set_option maxHeartbeats 8000000 in
set_option maxRecDepth 100000 in
/-- imageeditor/mask.samples -/
theorem samples_fn (r : Rc) (x y : Int) (hr : ElOk r) (hx : 0 ≤ x ∧ x < 256) (hy : 0 ≤ y ∧ y < 256) : Eng.Fn Try.prog 56 [rcD r, .i x, .i y] (.dat (.i (sampI r x y))) := by
  unfold ElOk at hr
  refine Eng.Fn.by (fn := Try.f56) 102 [.tmp 6] Try.func56 rfl Try.ntmps56 rfl (by simp) fun w0 => ?_
  refine WA_seq (x := (fcd Try.f56 [0])) (y := (fcd Try.f56 [1])) ?_
  refine V_regionX Γ Δ [] [0, 1, 2, 3, 6, 7, 8, 9, 10, 11, 12, 13, 20, 21, 45, 46, 47, 96] (evs ?_)
  all_goals (try with_reducible (repeat' (first | apply And.intro | intro _)))
  all_goals (try (first | with_reducible refine wa_id ?_ | exact True.intro | omega))
  refine WA_seq (x := (fcd Try.f56 [1, 0])) (y := (fcd Try.f56 [1, 1])) ?_
  refine V_draw Γ [] [0, 1, 2, 3, 6, 7, 8, 9, 10, 11, 12, 13, 20, 21, 45, 46, 47, 96] mixed (by kernel_rfl) (evs ?_)
  simp (maxSteps := 10000000) (disch := omega) only [w64]
  all_goals (try with_reducible (repeat' (first | apply And.intro | intro _)))
  all_goals (try (first | with_reducible refine wa_id ?_ | exact True.intro | omega))
  refine WA_seq (x := (fcd Try.f56 [1, 1, 0])) (y := (fcd Try.f56 [1, 1, 1])) ?_
  refine V_regionX Γ Δ [] [0, 1, 2, 3, 6, 7, 8, 9, 10, 11, 12, 13, 20, 21, 45, 46, 47, 96] (evs ?_)
  all_goals (try with_reducible (repeat' (first | apply And.intro | intro _)))
  all_goals (try (first | with_reducible refine wa_id ?_ | exact True.intro | omega))
  refine WA_seq (x := (fcd Try.f56 [1, 1, 1, 0])) (y := (fcd Try.f56 [1, 1, 1, 1])) ?_
  refine WA_seq (x := (fcd Try.f56 [1, 1, 1, 0, 0])) (y := (fcd Try.f56 [1, 1, 1, 0, 1])) ?_
  refine V_regionX Γ Δ [] [0, 1, 2, 3, 6, 7, 8, 9, 10, 11, 12, 13, 20, 21, 45, 46, 47, 96] (evs ?_)
  all_goals (try with_reducible (repeat' (first | apply And.intro | intro _)))
  all_goals (try (first | with_reducible refine wa_id ?_ | exact True.intro | omega))
  refine WA_block (c := (fcd Try.f56 [1, 1, 1, 0, 1, 0])) ?_
  refine V_loop (c := (fcd Try.f56 [1, 1, 1, 0, 1, 0, 0])) (α := Nat) [9, 10, 11, 12, 13, 20, 21, 45, 46, 47, 96] [] (fun j => [(20, .dat (.i (j : Int))), (9, .dat (.i (cnt2 (rndG r x y) j 0)))]) (fun j => []) (fun j => j ≤ 16) (fun j => 16 - j) 0 [] ?_ (evs ?_) ?_
  · exact Nat.zero_le _
  · (try with_reducible (repeat' (first | apply And.intro | intro _)))
    all_goals (first | exact True.intro | omega | (first | rfl))
  · intro j hJ
    refine WA_seq (x := (fcd Try.f56 [1, 1, 1, 0, 1, 0, 0, 0])) (y := (fcd Try.f56 [1, 1, 1, 0, 1, 0, 0, 1])) ?_
    refine V_regionX Γ Δ [] [0, 1, 2, 3, 6, 7, 8, 9, 10, 11, 12, 13, 20, 21, 45, 46, 47, 96] (evs ?_)
    all_goals (try with_reducible (repeat' (first | apply And.intro | intro _)))
    all_goals (try (first | with_reducible refine wa_id ?_ | exact True.intro | omega))
    refine WA_seq (x := (fcd Try.f56 [1, 1, 1, 0, 1, 0, 0, 1, 0])) (y := (fcd Try.f56 [1, 1, 1, 0, 1, 0, 0, 1, 1])) ?_
    refine V_cond (evs ?_)
    refine ⟨fun hc => ?_, fun hc => ?_⟩
    · refine WA_skip ?_
      refine WA_seq (x := (fcd Try.f56 [1, 1, 1, 0, 1, 0, 0, 1, 1, 0])) (y := (fcd Try.f56 [1, 1, 1, 0, 1, 0, 0, 1, 1, 1])) ?_
      refine WA_block (c := (fcd Try.f56 [1, 1, 1, 0, 1, 0, 0, 1, 1, 0, 0])) ?_
      refine WA_seq (x := (fcd Try.f56 [1, 1, 1, 0, 1, 0, 0, 1, 1, 0, 0, 0])) (y := (fcd Try.f56 [1, 1, 1, 0, 1, 0, 0, 1, 1, 0, 0, 1])) ?_
      refine V_regionX Γ Δ [] [0, 1, 2, 3, 6, 7, 8, 9, 10, 11, 12, 13, 20, 21, 45, 46, 47, 96] (evs ?_)
      all_goals (try with_reducible (repeat' (first | apply And.intro | intro _)))
      all_goals (try (first | with_reducible refine wa_id ?_ | exact True.intro | omega))
      refine WA_seq (x := (fcd Try.f56 [1, 1, 1, 0, 1, 0, 0, 1, 1, 0, 0, 1, 0])) (y := (fcd Try.f56 [1, 1, 1, 0, 1, 0, 0, 1, 1, 0, 0, 1, 1])) ?_
      refine V_regionX Γ Δ [] [0, 1, 2, 3, 6, 7, 8, 9, 10, 11, 12, 13, 20, 21, 45, 46, 47, 96] (evs ?_)
      have hj := ‹(j : Int) < 16›
      simp (maxSteps := 10000000) (disch := omega) only [w64]
      have hV := vR r y j
      all_goals (try with_reducible (repeat' (first | apply And.intro | intro _)))
      all_goals (try (first | with_reducible refine wa_id ?_ | exact True.intro | omega))
      refine WA_seq (x := (fcd Try.f56 [1, 1, 1, 0, 1, 0, 0, 1, 1, 0, 0, 1, 1, 0])) (y := (fcd Try.f56 [1, 1, 1, 0, 1, 0, 0, 1, 1, 0, 0, 1, 1, 1])) ?_
      refine WA_seq (x := (fcd Try.f56 [1, 1, 1, 0, 1, 0, 0, 1, 1, 0, 0, 1, 1, 0, 0])) (y := (fcd Try.f56 [1, 1, 1, 0, 1, 0, 0, 1, 1, 0, 0, 1, 1, 0, 1])) ?_
      refine V_regionX Γ Δ [] [0, 1, 2, 3, 6, 7, 8, 9, 10, 11, 12, 13, 20, 21, 45, 46, 47, 96] (evs ?_)
      simp (maxSteps := 10000000) (disch := omega) only [w64]
      all_goals (try with_reducible (repeat' (first | apply And.intro | intro _)))
      all_goals (try (first | with_reducible refine wa_id ?_ | exact True.intro | omega))
      refine V_cond (evs ?_)
      refine ⟨fun hc => ?_, fun hc => ?_⟩
      · refine V_exit (evs ?_)
        refine V_regionX Γ Δ [] [0, 1, 2, 3, 6, 7, 8, 9, 10, 11, 12, 13, 20, 21, 45, 46, 47, 96] (evs ?_)
        all_goals (try with_reducible (repeat' (first | apply And.intro | intro _)))
        all_goals (try (first | with_reducible refine wa_id ?_ | exact True.intro | omega))
        refine V_next [] (j + 1) (evs ?_) ?_ ?_
        all_goals (try with_reducible (repeat' (first | apply And.intro | intro _)))
        all_goals (first | exact True.intro | omega | (first | exact w64l (n := 16) (by omega) (by omega) | exact cnt2_row (rnd_out hc) | exact cnt2_over _ (by omega)))
      · refine WA_skip ?_
        refine WA_seq (x := (fcd Try.f56 [1, 1, 1, 0, 1, 0, 0, 1, 1, 0, 0, 1, 1, 1, 0])) (y := (fcd Try.f56 [1, 1, 1, 0, 1, 0, 0, 1, 1, 0, 0, 1, 1, 1, 1])) ?_
        refine V_regionX Γ Δ [] [0, 1, 2, 3, 6, 7, 8, 9, 10, 11, 12, 13, 20, 21, 45, 46, 47, 96] (evs ?_)
        all_goals (try with_reducible (repeat' (first | apply And.intro | intro _)))
        all_goals (try (first | with_reducible refine wa_id ?_ | exact True.intro | omega))
        refine WA_block (c := (fcd Try.f56 [1, 1, 1, 0, 1, 0, 0, 1, 1, 0, 0, 1, 1, 1, 1, 0])) ?_
        refine V_loop (c := (fcd Try.f56 [1, 1, 1, 0, 1, 0, 0, 1, 1, 0, 0, 1, 1, 1, 1, 0, 0])) (α := Nat) [9, 12, 13, 46, 47, 96] [] (fun i => [(46, .dat (.i (i : Int))), (9, .dat (.i (cnt2 (rndG r x y) j i)))]) (fun i => []) (fun i => i ≤ 16) (fun i => 16 - i) 0 [] ?_ (evs ?_) ?_
        · exact Nat.zero_le _
        · (try with_reducible (repeat' (first | apply And.intro | intro _)))
          all_goals (first | exact True.intro | omega | (first | rfl))
        · intro i hI
          refine WA_seq (x := (fcd Try.f56 [1, 1, 1, 0, 1, 0, 0, 1, 1, 0, 0, 1, 1, 1, 1, 0, 0, 0])) (y := (fcd Try.f56 [1, 1, 1, 0, 1, 0, 0, 1, 1, 0, 0, 1, 1, 1, 1, 0, 0, 1])) ?_
          refine V_regionX Γ Δ [] [0, 1, 2, 3, 6, 7, 8, 9, 10, 11, 12, 13, 20, 21, 45, 46, 47, 96] (evs ?_)
          all_goals (try with_reducible (repeat' (first | apply And.intro | intro _)))
          all_goals (try (first | with_reducible refine wa_id ?_ | exact True.intro | omega))
          refine WA_seq (x := (fcd Try.f56 [1, 1, 1, 0, 1, 0, 0, 1, 1, 0, 0, 1, 1, 1, 1, 0, 0, 1, 0])) (y := (fcd Try.f56 [1, 1, 1, 0, 1, 0, 0, 1, 1, 0, 0, 1, 1, 1, 1, 0, 0, 1, 1])) ?_
          refine V_cond (evs ?_)
          refine ⟨fun hc => ?_, fun hc => ?_⟩
          · refine WA_skip ?_
            refine WA_seq (x := (fcd Try.f56 [1, 1, 1, 0, 1, 0, 0, 1, 1, 0, 0, 1, 1, 1, 1, 0, 0, 1, 1, 0])) (y := (fcd Try.f56 [1, 1, 1, 0, 1, 0, 0, 1, 1, 0, 0, 1, 1, 1, 1, 0, 0, 1, 1, 1])) ?_
            refine WA_block (c := (fcd Try.f56 [1, 1, 1, 0, 1, 0, 0, 1, 1, 0, 0, 1, 1, 1, 1, 0, 0, 1, 1, 0, 0])) ?_
            refine WA_seq (x := (fcd Try.f56 [1, 1, 1, 0, 1, 0, 0, 1, 1, 0, 0, 1, 1, 1, 1, 0, 0, 1, 1, 0, 0, 0])) (y := (fcd Try.f56 [1, 1, 1, 0, 1, 0, 0, 1, 1, 0, 0, 1, 1, 1, 1, 0, 0, 1, 1, 0, 0, 1])) ?_
            refine V_regionX Γ Δ [] [0, 1, 2, 3, 6, 7, 8, 9, 10, 11, 12, 13, 20, 21, 45, 46, 47, 96] (evs ?_)
            all_goals (try with_reducible (repeat' (first | apply And.intro | intro _)))
            all_goals (try (first | with_reducible refine wa_id ?_ | exact True.intro | omega))
            refine WA_seq (x := (fcd Try.f56 [1, 1, 1, 0, 1, 0, 0, 1, 1, 0, 0, 1, 1, 1, 1, 0, 0, 1, 1, 0, 0, 1, 0])) (y := (fcd Try.f56 [1, 1, 1, 0, 1, 0, 0, 1, 1, 0, 0, 1, 1, 1, 1, 0, 0, 1, 1, 0, 0, 1, 1])) ?_
            refine V_regionX Γ Δ [] [0, 1, 2, 3, 6, 7, 8, 9, 10, 11, 12, 13, 20, 21, 45, 46, 47, 96] (evs ?_)
            have hi := ‹(i : Int) < 16›
            simp (maxSteps := 10000000) (disch := omega) only [w64]
            all_goals (try with_reducible (repeat' (first | apply And.intro | intro _)))
            all_goals (try (first | with_reducible refine wa_id ?_ | exact True.intro | omega))
            refine WA_seq (x := (fcd Try.f56 [1, 1, 1, 0, 1, 0, 0, 1, 1, 0, 0, 1, 1, 1, 1, 0, 0, 1, 1, 0, 0, 1, 1, 0])) (y := (fcd Try.f56 [1, 1, 1, 0, 1, 0, 0, 1, 1, 0, 0, 1, 1, 1, 1, 0, 0, 1, 1, 0, 0, 1, 1, 1])) ?_
            refine V_regionX Γ Δ [] [0, 1, 2, 3, 6, 7, 8, 9, 10, 11, 12, 13, 20, 21, 45, 46, 47, 96] (evs ?_)
            simp (maxSteps := 10000000) (disch := omega) only [w64]
            all_goals (try with_reducible (repeat' (first | apply And.intro | intro _)))
            all_goals (try (first | with_reducible refine wa_id ?_ | exact True.intro | omega))
            refine V_cond (evs ?_)
            refine ⟨fun hc => ?_, fun hc => ?_⟩
            · refine V_regionX Γ Δ [] [0, 1, 2, 3, 6, 7, 8, 9, 10, 11, 12, 13, 20, 21, 45, 46, 47, 96] (evs ?_)
              have hk := cnt2_bd (rndG r x y) j i (by omega)
              all_goals (try with_reducible (repeat' (first | apply And.intro | intro _)))
              all_goals (try (first | with_reducible refine wa_id ?_ | exact True.intro | omega))
              refine V_regionX Γ Δ [] [0, 1, 2, 3, 6, 7, 8, 9, 10, 11, 12, 13, 20, 21, 45, 46, 47, 96] (evs ?_)
              all_goals (try with_reducible (repeat' (first | apply And.intro | intro _)))
              all_goals (try (first | with_reducible refine wa_id ?_ | exact True.intro | omega))
              refine V_next [] (i + 1) (evs ?_) ?_ ?_
              all_goals (try with_reducible (repeat' (first | apply And.intro | intro _)))
              all_goals (first | exact True.intro | omega | (first | exact w64l (n := 16) (by omega) (by omega) | (rw [w64 (by omega) (by omega), cnt2_succ, rnd_1 (by omega) ‹_› hc]; rfl) | (rw [cnt2_succ, rnd_0 (by omega) ‹_› hc]; simp [b2i]; done)))
            · refine WA_skip ?_
              refine V_regionX Γ Δ [] [0, 1, 2, 3, 6, 7, 8, 9, 10, 11, 12, 13, 20, 21, 45, 46, 47, 96] (evs ?_)
              all_goals (try with_reducible (repeat' (first | apply And.intro | intro _)))
              all_goals (try (first | with_reducible refine wa_id ?_ | exact True.intro | omega))
              refine V_next [] (i + 1) (evs ?_) ?_ ?_
              all_goals (try with_reducible (repeat' (first | apply And.intro | intro _)))
              all_goals (first | exact True.intro | omega | (first | exact w64l (n := 16) (by omega) (by omega) | (rw [w64 (by omega) (by omega), cnt2_succ, rnd_1 (by omega) ‹_› hc]; rfl) | (rw [cnt2_succ, rnd_0 (by omega) ‹_› hc]; simp [b2i]; done)))
          · refine V_exit (evs ?_)
            refine V_regionX Γ Δ [] [0, 1, 2, 3, 6, 7, 8, 9, 10, 11, 12, 13, 20, 21, 45, 46, 47, 96] (evs ?_)
            all_goals (try with_reducible (repeat' (first | apply And.intro | intro _)))
            all_goals (try (first | with_reducible refine wa_id ?_ | exact True.intro | omega))
            refine V_next [] (j + 1) (evs ?_) ?_ ?_
            all_goals (try with_reducible (repeat' (first | apply And.intro | intro _)))
            all_goals (first | exact True.intro | omega | (first | exact w64l (n := 16) (by omega) (by omega) | exact cnt2_row (rnd_out hc) | exact cnt2_over _ (by omega)))
    · refine V_exit (evs ?_)
      refine WA_seq (x := (fcd Try.f56 [1, 1, 1, 1, 0])) (y := (fcd Try.f56 [1, 1, 1, 1, 1])) ?_
      refine V_regionX Γ Δ [] [0, 1, 2, 3, 6, 7, 8, 9, 10, 11, 12, 13, 20, 21, 45, 46, 47, 96] (evs ?_)
      all_goals (try with_reducible (repeat' (first | apply And.intro | intro _)))
      all_goals (try (first | with_reducible refine wa_id ?_ | exact True.intro | omega))
      refine V_ret (evs ?_)
      first | (rw [sampI]; congr 1; omega)

end Go.S23

