import Derived.Test.YtgkflbibpkkegaaGreatDoorA0
set_option linter.unusedSimpArgs false
set_option linter.unusedVariables false
set_option linter.unusedSimpArgs false
set_option linter.unusedVariables false
namespace Go.S35
open Go.RowKit Go.Proofs Go.Eng Go.Rect
set_option maxHeartbeats 2000000 in
set_option maxRecDepth 100000 in
theorem pmean_fn (l : List Px) (h0 : 0 < l.length) (hl : l.length ≤ 4) (hp : ∀ p ∈ l, validP p = true) : Eng.Fn Tryz.prog 52 [.sl 4 (l.map pxC)] (.dat (pxD (meanL l))) := by
  refine Eng.Fn.by (fn := Tryz.f52) 60 [.cell 2 44] Tryz.func52 rfl Tryz.ntmps52 rfl (by simp) fun w0 G0 => ?_
  refine WA_seq (x := (fcd Tryz.f52 [0])) (y := (fcd Tryz.f52 [1])) ?_
  refine V_regionX Γ Δ [] [0, 2, 3, 4, 5, 6, 8, 9, 10, 11, 12, 13, 47] (evs ?_)
  all_goals (try with_reducible (repeat' (first | apply And.intro | intro _)))
  all_goals (try (first | with_reducible refine wa_id ?_ | exact True.intro | omega))
  refine WA_seq (x := (fcd Tryz.f52 [1, 0])) (y := (fcd Tryz.f52 [1, 1])) ?_
  refine V_regionX Γ Δ [] [0, 2, 3, 4, 5, 6, 8, 9, 10, 11, 12, 13, 47] (evs ?_)
  all_goals (try with_reducible (repeat' (first | apply And.intro | intro _)))
  all_goals (try (first | with_reducible refine wa_id ?_ | exact True.intro | omega))
  refine WA_seq (x := (fcd Tryz.f52 [1, 1, 0])) (y := (fcd Tryz.f52 [1, 1, 1])) ?_
  refine WA_seq (x := (fcd Tryz.f52 [1, 1, 0, 0])) (y := (fcd Tryz.f52 [1, 1, 0, 1])) ?_
  refine V_regionX Γ Δ [] [0, 2, 3, 4, 5, 6, 8, 9, 10, 11, 12, 13, 47] (evs ?_)
  all_goals (try with_reducible (repeat' (first | apply And.intro | intro _)))
  all_goals (try (first | with_reducible refine wa_id ?_ | exact True.intro | omega))
  refine WA_block (c := (fcd Tryz.f52 [1, 1, 0, 1, 0])) ?_
  refine V_loop (c := (fcd Tryz.f52 [1, 1, 0, 1, 0, 0])) (α := Nat) [3, 4, 5, 6, 8, 12, 13] [8] (fun k => [(12, .dat (.i (k : Int))), (3, .dat (.i (smK l k).r)), (4, .dat (.i (smK l k).g)), (5, .dat (.i (smK l k).b)), (6, .dat (.i (smK l k).a))]) (fun k => []) (fun k => k ≤ l.length) (fun k => l.length - k) 0 [] ?_ (evs ?_) ?_
  · exact Nat.zero_le _
  · (try with_reducible (repeat' (first | apply And.intro | intro _)))
    all_goals (first | exact True.intro | omega | (first | rfl))
  · intro k hI
    refine WA_seq (x := (fcd Tryz.f52 [1, 1, 0, 1, 0, 0, 0])) (y := (fcd Tryz.f52 [1, 1, 0, 1, 0, 0, 1])) ?_
    refine V_regionX Γ Δ [] [0, 2, 3, 4, 5, 6, 8, 9, 10, 11, 12, 13, 47] (evs ?_)
    all_goals (try with_reducible (repeat' (first | apply And.intro | intro _)))
    all_goals (try (first | with_reducible refine wa_id ?_ | exact True.intro | omega))
    refine WA_seq (x := (fcd Tryz.f52 [1, 1, 0, 1, 0, 0, 1, 0])) (y := (fcd Tryz.f52 [1, 1, 0, 1, 0, 0, 1, 1])) ?_
    refine V_cond (evs ?_)
    refine ⟨fun hc => ?_, fun hc => ?_⟩
    · refine WA_skip ?_
      refine WA_seq (x := (fcd Tryz.f52 [1, 1, 0, 1, 0, 0, 1, 1, 0])) (y := (fcd Tryz.f52 [1, 1, 0, 1, 0, 0, 1, 1, 1])) ?_
      refine WA_block (c := (fcd Tryz.f52 [1, 1, 0, 1, 0, 0, 1, 1, 0, 0])) ?_
      refine WA_seq (x := (fcd Tryz.f52 [1, 1, 0, 1, 0, 0, 1, 1, 0, 0, 0])) (y := (fcd Tryz.f52 [1, 1, 0, 1, 0, 0, 1, 1, 0, 0, 1])) ?_
      refine V_regionX Γ Δ [] [0, 2, 3, 4, 5, 6, 8, 9, 10, 11, 12, 13, 47] (evs ?_)
      all_goals (try with_reducible (repeat' (first | apply And.intro | intro _)))
      all_goals (try (first | with_reducible refine wa_id ?_ | exact True.intro | omega))
      refine WA_seq (x := (fcd Tryz.f52 [1, 1, 0, 1, 0, 0, 1, 1, 0, 0, 1, 0])) (y := (fcd Tryz.f52 [1, 1, 0, 1, 0, 0, 1, 1, 0, 0, 1, 1])) ?_
      refine V_regionX Γ Δ [] [0, 2, 3, 4, 5, 6, 8, 9, 10, 11, 12, 13, 47] (evs ?_)
      have hv := hp _ (gd_mem (z := zP) (show k < l.length by omega))
      have hb := px_ps hv
      have hs := (smK_ok hl hp k)
      unfold SmOk at hs
      (try simp (maxSteps := 10000000) (disch := omega) only [w64])
      all_goals (try with_reducible (repeat' (first | apply And.intro | intro _)))
      all_goals (try (first | with_reducible refine wa_id ?_ | exact True.intro | omega))
      refine WA_seq (x := (fcd Tryz.f52 [1, 1, 0, 1, 0, 0, 1, 1, 0, 0, 1, 1, 0])) (y := (fcd Tryz.f52 [1, 1, 0, 1, 0, 0, 1, 1, 0, 0, 1, 1, 1])) ?_
      refine V_regionX Γ Δ [] [0, 2, 3, 4, 5, 6, 8, 9, 10, 11, 12, 13, 47] (evs ?_)
      (try simp (maxSteps := 10000000) (disch := omega) only [w64])
      all_goals (try with_reducible (repeat' (first | apply And.intro | intro _)))
      all_goals (try (first | with_reducible refine wa_id ?_ | exact True.intro | omega))
      refine WA_seq (x := (fcd Tryz.f52 [1, 1, 0, 1, 0, 0, 1, 1, 0, 0, 1, 1, 1, 0])) (y := (fcd Tryz.f52 [1, 1, 0, 1, 0, 0, 1, 1, 0, 0, 1, 1, 1, 1])) ?_
      refine V_regionX Γ Δ [] [0, 2, 3, 4, 5, 6, 8, 9, 10, 11, 12, 13, 47] (evs ?_)
      (try simp (maxSteps := 10000000) (disch := omega) only [w64])
      all_goals (try with_reducible (repeat' (first | apply And.intro | intro _)))
      all_goals (try (first | with_reducible refine wa_id ?_ | exact True.intro | omega))
      refine V_regionX Γ Δ [] [0, 2, 3, 4, 5, 6, 8, 9, 10, 11, 12, 13, 47] (evs ?_)
      (try simp (maxSteps := 10000000) (disch := omega) only [w64])
      all_goals (try with_reducible (repeat' (first | apply And.intro | intro _)))
      all_goals (try (first | with_reducible refine wa_id ?_ | exact True.intro | omega))
      refine V_regionX Γ Δ [] [0, 2, 3, 4, 5, 6, 8, 9, 10, 11, 12, 13, 47] (evs ?_)
      all_goals (try with_reducible (repeat' (first | apply And.intro | intro _)))
      all_goals (try (first | with_reducible refine wa_id ?_ | exact True.intro | omega))
      refine V_next [] (k + 1) (evs ?_) ?_ ?_
      all_goals (try with_reducible (repeat' (first | apply And.intro | intro _)))
      all_goals (first | exact True.intro | omega | (first | exact w64l (n := 8) (by omega) (by omega) | (rw [smK_s ‹_›]; done) | rfl))
    · refine V_exit (evs ?_)
      refine WA_seq (x := (fcd Tryz.f52 [1, 1, 1, 0])) (y := (fcd Tryz.f52 [1, 1, 1, 1])) ?_
      refine V_regionX Γ Δ [] [0, 2, 3, 4, 5, 6, 8, 9, 10, 11, 12, 13, 47] (evs ?_)
      have hka := smK_all hc
      simp only [hka]
      have hs := sm_ok hl hp
      have hw := hs.2
      unfold SmOk at hs
      all_goals (try with_reducible (repeat' (first | apply And.intro | intro _)))
      all_goals (try (first | with_reducible refine wa_id ?_ | exact True.intro | exact divw_fn _ _ (by omega) (by omega) (by omega) (by omega) | omega))
      refine WA_seq (x := (fcd Tryz.f52 [1, 1, 1, 1, 0])) (y := (fcd Tryz.f52 [1, 1, 1, 1, 1])) ?_
      refine WA_seq (x := (fcd Tryz.f52 [1, 1, 1, 1, 0, 0])) (y := (fcd Tryz.f52 [1, 1, 1, 1, 0, 1])) ?_
      refine V_regionX Γ Δ [] [0, 2, 3, 4, 5, 6, 8, 9, 10, 11, 12, 13, 47] (evs ?_)
      all_goals (try with_reducible (repeat' (first | apply And.intro | intro _)))
      all_goals (try (first | with_reducible refine wa_id ?_ | exact True.intro | omega))
      refine V_cond (evs ?_)
      refine ⟨fun hc => ?_, fun hc => ?_⟩
      · refine WA_seq (x := (fcd Tryz.f52 [1, 1, 1, 1, 0, 1, 0, 0])) (y := (fcd Tryz.f52 [1, 1, 1, 1, 0, 1, 0, 1])) ?_
        refine V_regionX Γ Δ [] [0, 2, 3, 4, 5, 6, 8, 9, 10, 11, 12, 13, 47] (evs ?_)
        all_goals (try with_reducible (repeat' (first | apply And.intro | intro _)))
        all_goals (try (first | with_reducible refine wa_id ?_ | exact True.intro | omega))
        refine V_ret (evs ?_)
        first | exact pe (p := zP) (mnA hw (by omega) hc) | exact pe (mnB hw (by omega) hc)
      · refine WA_skip ?_
        refine WA_seq (x := (fcd Tryz.f52 [1, 1, 1, 1, 1, 0])) (y := (fcd Tryz.f52 [1, 1, 1, 1, 1, 1])) ?_
        refine V_regionX Γ Δ [] [0, 2, 3, 4, 5, 6, 8, 9, 10, 11, 12, 13, 47] (evs ?_)
        all_goals (try with_reducible (repeat' (first | apply And.intro | intro _)))
        all_goals (try (first | with_reducible refine wa_id ?_ | exact True.intro | exact divw_fn _ _ (by omega) (by omega) (by omega) (by omega) | omega))
        refine V_ret (evs ?_)
        first | exact pe (p := zP) (mnA hw (by omega) hc) | exact pe (mnB hw (by omega) hc)

set_option maxHeartbeats 4000000 in
set_option maxRecDepth 100000 in
theorem rmean_fn (l : List Px) (h0 : 0 < l.length) (hl : l.length ≤ 4) (hp : ∀ p ∈ l, validP p = true) : Eng.Fn Tryz.prog 38 [.sl 4 (l.map pxC)] (.dat (pxD (meanL l))) := by
  refine Eng.Fn.by (fn := Tryz.f38) 83 [.cell 2 44] Tryz.func38 rfl Tryz.ntmps38 rfl (by simp) fun w0 G0 => ?_
  refine WA_seq (x := (fcd Tryz.f38 [0])) (y := (fcd Tryz.f38 [1])) ?_
  refine V_regionX Γ Δ [] [0, 2, 3, 4, 5, 6, 7, 8, 10, 11, 12, 70] (evs ?_)
  all_goals (try with_reducible (repeat' (first | apply And.intro | intro _)))
  all_goals (try (first | with_reducible refine wa_id ?_ | exact True.intro | omega))
  refine WA_seq (x := (fcd Tryz.f38 [1, 0])) (y := (fcd Tryz.f38 [1, 1])) ?_
  refine V_regionX Γ Δ [] [0, 2, 3, 4, 5, 6, 7, 8, 10, 11, 12, 70] (evs ?_)
  all_goals (try with_reducible (repeat' (first | apply And.intro | intro _)))
  all_goals (try (first | with_reducible refine wa_id ?_ | exact True.intro | omega))
  refine WA_seq (x := (fcd Tryz.f38 [1, 1, 0])) (y := (fcd Tryz.f38 [1, 1, 1])) ?_
  refine WA_seq (x := (fcd Tryz.f38 [1, 1, 0, 0])) (y := (fcd Tryz.f38 [1, 1, 0, 1])) ?_
  refine V_regionX Γ Δ [] [0, 2, 3, 4, 5, 6, 7, 8, 10, 11, 12, 70] (evs ?_)
  all_goals (try with_reducible (repeat' (first | apply And.intro | intro _)))
  all_goals (try (first | with_reducible refine wa_id ?_ | exact True.intro | omega))
  refine WA_block (c := (fcd Tryz.f38 [1, 1, 0, 1, 0])) ?_
  refine V_loop (c := (fcd Tryz.f38 [1, 1, 0, 1, 0, 0])) (α := Nat) [3, 4, 5, 6, 7, 11, 12] [] (fun k => [(11, .dat (.i (k : Int))), (3, .dat (.i (smK l k).r)), (4, .dat (.i (smK l k).g)), (5, .dat (.i (smK l k).b)), (6, .dat (.i (smK l k).a))]) (fun k => []) (fun k => k ≤ l.length) (fun k => l.length - k) 0 [] ?_ (evs ?_) ?_
  · exact Nat.zero_le _
  · (try with_reducible (repeat' (first | apply And.intro | intro _)))
    all_goals (first | exact True.intro | omega | (first | rfl))
  · intro k hI
    refine WA_seq (x := (fcd Tryz.f38 [1, 1, 0, 1, 0, 0, 0])) (y := (fcd Tryz.f38 [1, 1, 0, 1, 0, 0, 1])) ?_
    refine V_regionX Γ Δ [] [0, 2, 3, 4, 5, 6, 7, 8, 10, 11, 12, 70] (evs ?_)
    all_goals (try with_reducible (repeat' (first | apply And.intro | intro _)))
    all_goals (try (first | with_reducible refine wa_id ?_ | exact True.intro | omega))
    refine WA_seq (x := (fcd Tryz.f38 [1, 1, 0, 1, 0, 0, 1, 0])) (y := (fcd Tryz.f38 [1, 1, 0, 1, 0, 0, 1, 1])) ?_
    refine V_cond (evs ?_)
    refine ⟨fun hc => ?_, fun hc => ?_⟩
    · refine WA_skip ?_
      refine WA_seq (x := (fcd Tryz.f38 [1, 1, 0, 1, 0, 0, 1, 1, 0])) (y := (fcd Tryz.f38 [1, 1, 0, 1, 0, 0, 1, 1, 1])) ?_
      refine WA_block (c := (fcd Tryz.f38 [1, 1, 0, 1, 0, 0, 1, 1, 0, 0])) ?_
      refine WA_seq (x := (fcd Tryz.f38 [1, 1, 0, 1, 0, 0, 1, 1, 0, 0, 0])) (y := (fcd Tryz.f38 [1, 1, 0, 1, 0, 0, 1, 1, 0, 0, 1])) ?_
      refine V_regionX Γ Δ [] [0, 2, 3, 4, 5, 6, 7, 8, 10, 11, 12, 70] (evs ?_)
      all_goals (try with_reducible (repeat' (first | apply And.intro | intro _)))
      all_goals (try (first | with_reducible refine wa_id ?_ | exact True.intro | omega))
      refine V_draw Γ [] [0, 2, 3, 4, 5, 6, 7, 8, 10, 11, 12, 70] mixed (by kernel_rfl) (evs ?_)
      have hv := hp _ (gd_mem (z := zP) (show k < l.length by omega))
      have hb := px_ps hv
      have hs := (smK_ok hl hp k)
      unfold SmOk at hs
      (try simp (maxSteps := 10000000) (disch := omega) only [w64])
      all_goals (try with_reducible (repeat' (first | apply And.intro | intro _)))
      all_goals (try (first | with_reducible refine wa_id ?_ | exact True.intro | omega))
      refine V_regionX Γ Δ [] [0, 2, 3, 4, 5, 6, 7, 8, 10, 11, 12, 70] (evs ?_)
      all_goals (try with_reducible (repeat' (first | apply And.intro | intro _)))
      all_goals (try (first | with_reducible refine wa_id ?_ | exact True.intro | omega))
      refine V_next [] (k + 1) (evs ?_) ?_ ?_
      all_goals (try with_reducible (repeat' (first | apply And.intro | intro _)))
      all_goals (first | exact True.intro | omega | (first | exact w64l (n := 8) (by omega) (by omega) | (rw [smK_s ‹_›]; done) | rfl))
    · refine V_exit (evs ?_)
      refine WA_seq (x := (fcd Tryz.f38 [1, 1, 1, 0])) (y := (fcd Tryz.f38 [1, 1, 1, 1])) ?_
      refine V_regionX Γ Δ [] [0, 2, 3, 4, 5, 6, 7, 8, 10, 11, 12, 70] (evs ?_)
      have hka := smK_all hc
      simp only [hka]
      have hs := sm_ok hl hp
      have hw := hs.2
      unfold SmOk at hs
      all_goals (try with_reducible (repeat' (first | apply And.intro | intro _)))
      all_goals (try (first | with_reducible refine wa_id ?_ | exact True.intro | exact rdivw_fn _ _ (by omega) (by omega) (by omega) (by omega) | omega))
      refine WA_seq (x := (fcd Tryz.f38 [1, 1, 1, 1, 0])) (y := (fcd Tryz.f38 [1, 1, 1, 1, 1])) ?_
      refine WA_seq (x := (fcd Tryz.f38 [1, 1, 1, 1, 0, 0])) (y := (fcd Tryz.f38 [1, 1, 1, 1, 0, 1])) ?_
      refine V_regionX Γ Δ [] [0, 2, 3, 4, 5, 6, 7, 8, 10, 11, 12, 70] (evs ?_)
      all_goals (try with_reducible (repeat' (first | apply And.intro | intro _)))
      all_goals (try (first | with_reducible refine wa_id ?_ | exact True.intro | omega))
      refine V_cond (evs ?_)
      refine ⟨fun hc => ?_, fun hc => ?_⟩
      · refine WA_seq (x := (fcd Tryz.f38 [1, 1, 1, 1, 0, 1, 0, 0])) (y := (fcd Tryz.f38 [1, 1, 1, 1, 0, 1, 0, 1])) ?_
        refine V_regionX Γ Δ [] [0, 2, 3, 4, 5, 6, 7, 8, 10, 11, 12, 70] (evs ?_)
        all_goals (try with_reducible (repeat' (first | apply And.intro | intro _)))
        all_goals (try (first | with_reducible refine wa_id ?_ | exact True.intro | omega))
        refine V_ret (evs ?_)
        first | exact pe (p := zP) (mnC hw (by omega) hc) | exact pe (mnD hw (by omega) hc)
      · refine WA_skip ?_
        refine WA_seq (x := (fcd Tryz.f38 [1, 1, 1, 1, 1, 0])) (y := (fcd Tryz.f38 [1, 1, 1, 1, 1, 1])) ?_
        refine V_regionX Γ Δ [] [0, 2, 3, 4, 5, 6, 7, 8, 10, 11, 12, 70] (evs ?_)
        all_goals (try with_reducible (repeat' (first | apply And.intro | intro _)))
        all_goals (try (first | with_reducible refine wa_id ?_ | exact True.intro | exact rdivw_fn _ _ (by omega) (by omega) (by omega) (by omega) | omega))
        refine V_ret (evs ?_)
        first | exact pe (p := zP) (mnC hw (by omega) hc) | exact pe (mnD hw (by omega) hc)

end Go.S35

