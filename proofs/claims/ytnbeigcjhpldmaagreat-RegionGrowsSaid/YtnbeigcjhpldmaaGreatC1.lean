import Derived.Test.YtnbeigcjhpldmaaGreatF03
set_option linter.unusedSimpArgs false
set_option linter.unusedVariables false
set_option linter.unusedSimpArgs false
set_option linter.unusedVariables false
namespace Go.S03
open Go.RowKit Go.Proofs Go.Eng Go.Rect
set_option maxHeartbeats 2000000 in
set_option maxRecDepth 100000 in
theorem compact_z (l : List Int) : Eng.FnZ Tryz.prog 78 (zCmp 3 l) := by
  refine Eng.FnZ.by (fn := Tryz.f78) 61 [.tmp 2] Tryz.func78 rfl Tryz.ntmps78 rfl (by simp [zCmp]) fun w0 X G0 u => ?_
  refine WA_seq (x := (fcd Tryz.f78 [0])) (y := (fcd Tryz.f78 [1])) ?_
  refine V_regionZ Γ Δ Θ [] [0, 2, 3, 4, 5, 8, 13, 25, 32, 44] (evs ?_)
  all_goals (try with_reducible (repeat' (first | apply And.intro | intro _)))
  all_goals (try (first | with_reducible refine wa_id ?_ | exact True.intro | omega))
  refine WA_seq (x := (fcd Tryz.f78 [1, 0])) (y := (fcd Tryz.f78 [1, 1])) ?_
  refine WA_seq (x := (fcd Tryz.f78 [1, 0, 0])) (y := (fcd Tryz.f78 [1, 0, 1])) ?_
  refine V_regionZ Γ Δ Θ [] [0, 2, 3, 4, 5, 8, 13, 25, 32, 44] (evs ?_)
  all_goals (try with_reducible (repeat' (first | apply And.intro | intro _)))
  all_goals (try (first | with_reducible refine wa_id ?_ | exact True.intro | omega))
  refine V_cond (evs ?_)
  refine ⟨fun hc => ?_, fun hc => ?_⟩
  · refine WA_seq (x := (fcd Tryz.f78 [1, 0, 1, 0, 0])) (y := (fcd Tryz.f78 [1, 0, 1, 0, 1])) ?_
    refine V_regionZ Γ Δ Θ [] [0, 2, 3, 4, 5, 8, 13, 25, 32, 44] (evs ?_)
    all_goals (try with_reducible (repeat' (first | apply And.intro | intro _)))
    all_goals (try (first | with_reducible refine wa_id ?_ | exact True.intro | omega))
    refine WA_ret (V_retZ [] () (evs ?_) ?_)
    all_goals (first | trivial | rfl | exact cmp_fin (cmp_small hc) | exact cmp_fin (C0_id hI hc) | exact cmp_out hJ.2 (by omega) | exact ⟨cmp_out hJ.2 (by omega), rfl⟩)
  · refine WA_skip ?_
    refine WA_seq (x := (fcd Tryz.f78 [1, 1, 0])) (y := (fcd Tryz.f78 [1, 1, 1])) ?_
    refine WA_seq (x := (fcd Tryz.f78 [1, 1, 0, 0])) (y := (fcd Tryz.f78 [1, 1, 0, 1])) ?_
    refine V_regionZ Γ Δ Θ [] [0, 2, 3, 4, 5, 8, 13, 25, 32, 44] (evs ?_)
    all_goals (try with_reducible (repeat' (first | apply And.intro | intro _)))
    all_goals (try (first | with_reducible refine wa_id ?_ | exact True.intro | omega))
    refine WA_block (c := (fcd Tryz.f78 [1, 1, 0, 1, 0])) ?_
    refine V_loop (c := (fcd Tryz.f78 [1, 1, 0, 1, 0, 0])) (α := Nat) [2, 3, 4, 5, 13, 25, 32, 44] [30000] (fun k => [(3, .dat (.i (k : Int)))]) (fun k => [(30000, some (true, .arr 3 1 ((l).map iC)))]) (fun k => C0 l k) (fun k => l.length - k) 1 [] ?_ (evs ?_) ?_
    · exact C0_0 hc
    · (try with_reducible (repeat' (first | apply And.intro | intro _)))
      all_goals (first | exact True.intro | omega | (first | rfl))
    · intro k hI
      refine WA_seq (x := (fcd Tryz.f78 [1, 1, 0, 1, 0, 0, 0])) (y := (fcd Tryz.f78 [1, 1, 0, 1, 0, 0, 1])) ?_
      refine WA_seq (x := (fcd Tryz.f78 [1, 1, 0, 1, 0, 0, 0, 0])) (y := (fcd Tryz.f78 [1, 1, 0, 1, 0, 0, 0, 1])) ?_
      refine V_regionZ Γ Δ Θ [] [0, 2, 3, 4, 5, 8, 13, 25, 32, 44] (evs ?_)
      all_goals (try with_reducible (repeat' (first | apply And.intro | intro _)))
      all_goals (try (first | with_reducible refine wa_id ?_ | exact True.intro | omega))
      refine V_cond (evs ?_)
      refine ⟨fun hc => ?_, fun hc => ?_⟩
      · refine WA_skip ?_
        refine WA_seq (x := (fcd Tryz.f78 [1, 1, 0, 1, 0, 0, 1, 0])) (y := (fcd Tryz.f78 [1, 1, 0, 1, 0, 0, 1, 1])) ?_
        refine WA_block (c := (fcd Tryz.f78 [1, 1, 0, 1, 0, 0, 1, 0, 0])) ?_
        refine WA_seq (x := (fcd Tryz.f78 [1, 1, 0, 1, 0, 0, 1, 0, 0, 0])) (y := (fcd Tryz.f78 [1, 1, 0, 1, 0, 0, 1, 0, 0, 1])) ?_
        refine V_draw Γ [] [0, 2, 3, 4, 5, 8, 13, 25, 32, 44] mixed (by kernel_rfl) (evs ?_)
        have hz := ‹l.length ≤ maxLen›
        unfold maxLen at hz
        have hk1 := hI.a
        have hk2 := hI.b
        (try simp (maxSteps := 10000000) (disch := omega) only [w64])
        all_goals (try with_reducible (repeat' (first | apply And.intro | intro _)))
        all_goals (try (first | with_reducible refine wa_id ?_ | exact True.intro | omega))
        refine V_cond (evs ?_)
        refine ⟨fun hc => ?_, fun hc => ?_⟩
        · refine WA_seq (x := (fcd Tryz.f78 [1, 1, 0, 1, 0, 0, 1, 0, 0, 1, 0, 0])) (y := (fcd Tryz.f78 [1, 1, 0, 1, 0, 0, 1, 0, 0, 1, 0, 1])) ?_
          refine V_regionZ Γ Δ Θ [] [0, 2, 3, 4, 5, 8, 13, 25, 32, 44] (evs ?_)
          all_goals (try with_reducible (repeat' (first | apply And.intro | intro _)))
          all_goals (try (first | with_reducible refine wa_id ?_ | exact True.intro | omega))
          refine WA_seq (x := (fcd Tryz.f78 [1, 1, 0, 1, 0, 0, 1, 0, 0, 1, 0, 1, 0])) (y := (fcd Tryz.f78 [1, 1, 0, 1, 0, 0, 1, 0, 0, 1, 0, 1, 1])) ?_
          refine WA_seq (x := (fcd Tryz.f78 [1, 1, 0, 1, 0, 0, 1, 0, 0, 1, 0, 1, 0, 0])) (y := (fcd Tryz.f78 [1, 1, 0, 1, 0, 0, 1, 0, 0, 1, 0, 1, 0, 1])) ?_
          refine V_regionZ Γ Δ Θ [] [0, 2, 3, 4, 5, 8, 13, 25, 32, 44] (evs ?_)
          all_goals (try with_reducible (repeat' (first | apply And.intro | intro _)))
          all_goals (try (first | with_reducible refine wa_id ?_ | exact True.intro | omega))
          refine WA_block (c := (fcd Tryz.f78 [1, 1, 0, 1, 0, 0, 1, 0, 0, 1, 0, 1, 0, 1, 0])) ?_
          refine V_loop (c := (fcd Tryz.f78 [1, 1, 0, 1, 0, 0, 1, 0, 0, 1, 0, 1, 0, 1, 0, 0])) (α := Nat × List Int) [3, 5, 32, 44] [30000] (fun p => [(3, .dat (.i ((cmpL (l.take (k + p.1))).length : Int))), (5, .dat (.i (p.1 : Int)))]) (fun p => [(30000, some (true, .arr 3 1 ((p.2).map iC)))]) (fun p => 1 ≤ p.1 ∧ C1 l (k + p.1) p.2) (fun p => l.length - (k + p.1)) (1, l) [] ?_ (evs ?_) ?_
          · exact ⟨Nat.le_refl _, (C1_0 hI ‹_› hc).1⟩
          · (try with_reducible (repeat' (first | apply And.intro | intro _)))
            all_goals (first | exact True.intro | omega | (first | rfl | exact congrArg Nat.cast (C1_0 hI ‹_› hc).2.symm))
          · rintro ⟨q, A⟩ hJ
            simp only at hJ
            refine WA_seq (x := (fcd Tryz.f78 [1, 1, 0, 1, 0, 0, 1, 0, 0, 1, 0, 1, 0, 1, 0, 0, 0])) (y := (fcd Tryz.f78 [1, 1, 0, 1, 0, 0, 1, 0, 0, 1, 0, 1, 0, 1, 0, 0, 1])) ?_
            refine WA_seq (x := (fcd Tryz.f78 [1, 1, 0, 1, 0, 0, 1, 0, 0, 1, 0, 1, 0, 1, 0, 0, 0, 0])) (y := (fcd Tryz.f78 [1, 1, 0, 1, 0, 0, 1, 0, 0, 1, 0, 1, 0, 1, 0, 0, 0, 1])) ?_
            refine V_regionZ Γ Δ Θ [] [0, 2, 3, 4, 5, 8, 13, 25, 32, 44] (evs ?_)
            all_goals (try with_reducible (repeat' (first | apply And.intro | intro _)))
            all_goals (try (first | with_reducible refine wa_id ?_ | exact True.intro | omega))
            refine V_cond (evs ?_)
            refine ⟨fun hc => ?_, fun hc => ?_⟩
            · refine WA_skip ?_
              refine WA_seq (x := (fcd Tryz.f78 [1, 1, 0, 1, 0, 0, 1, 0, 0, 1, 0, 1, 0, 1, 0, 0, 1, 0])) (y := (fcd Tryz.f78 [1, 1, 0, 1, 0, 0, 1, 0, 0, 1, 0, 1, 0, 1, 0, 0, 1, 1])) ?_
              refine WA_block (c := (fcd Tryz.f78 [1, 1, 0, 1, 0, 0, 1, 0, 0, 1, 0, 1, 0, 1, 0, 0, 1, 0, 0])) ?_
              refine WA_seq (x := (fcd Tryz.f78 [1, 1, 0, 1, 0, 0, 1, 0, 0, 1, 0, 1, 0, 1, 0, 0, 1, 0, 0, 0])) (y := (fcd Tryz.f78 [1, 1, 0, 1, 0, 0, 1, 0, 0, 1, 0, 1, 0, 1, 0, 0, 1, 0, 0, 1])) ?_
              refine V_draw Γ [] [0, 2, 3, 4, 5, 8, 13, 25, 32, 44] mixed (by kernel_rfl) (evs ?_)
              have hJ1 := hJ.2
              have hJ2 := hJ1.e
              have hJ3 := hJ1.a
              have hJ4 := hJ1.b
              have hJ5 := hJ.1
              (try simp (maxSteps := 10000000) (disch := omega) only [w64])
              all_goals (try with_reducible (repeat' (first | apply And.intro | intro _)))
              all_goals (try (first | with_reducible refine wa_id ?_ | exact True.intro | omega))
              refine V_cond (evs ?_)
              refine ⟨fun hc => ?_, fun hc => ?_⟩
              · refine WA_seq (x := (fcd Tryz.f78 [1, 1, 0, 1, 0, 0, 1, 0, 0, 1, 0, 1, 0, 1, 0, 0, 1, 0, 0, 1, 0, 0])) (y := (fcd Tryz.f78 [1, 1, 0, 1, 0, 0, 1, 0, 0, 1, 0, 1, 0, 1, 0, 0, 1, 0, 0, 1, 0, 1])) ?_
                refine V_regionZ Γ Δ Θ [] [0, 2, 3, 4, 5, 8, 13, 25, 32, 44] (evs ?_)
                all_goals (try with_reducible (repeat' (first | apply And.intro | intro _)))
                all_goals (try (first | with_reducible refine wa_id ?_ | exact True.intro | omega))
                refine V_regionZ Γ Δ Θ [] [0, 2, 3, 4, 5, 8, 13, 25, 32, 44] (evs ?_)
                all_goals (try with_reducible (repeat' (first | apply And.intro | intro _)))
                all_goals (try (first | with_reducible refine wa_id ?_ | exact True.intro | omega))
                refine V_regionZ Γ Δ Θ [] [0, 2, 3, 4, 5, 8, 13, 25, 32, 44] (evs ?_)
                all_goals (try with_reducible (repeat' (first | apply And.intro | intro _)))
                all_goals (try (first | with_reducible refine wa_id ?_ | exact True.intro | omega))
                refine V_next [] (q + 1, A.set (cmpL (l.take (k + q))).length (A.getD (k + q) 0)) (evs ?_) ?_ ?_
                all_goals (try with_reducible (repeat' (first | apply And.intro | intro _)))
                all_goals (first | exact True.intro | omega | (first | exact (C1_n' hJ.2 hJ.1 ‹_› ‹l.length ≤ maxLen› hc).1 | exact (C1_n' hJ.2 hJ.1 ‹_› ‹l.length ≤ maxLen› hc).2.1 | exact (C1_n' hJ.2 hJ.1 ‹_› ‹l.length ≤ maxLen› hc).2.2 | exact (C1_y' hJ.2 hJ.1 ‹_› ‹l.length ≤ maxLen› hc).1 | exact (C1_y' hJ.2 hJ.1 ‹_› ‹l.length ≤ maxLen› hc).2.1 | exact (C1_y' hJ.2 hJ.1 ‹_› ‹l.length ≤ maxLen› hc).2.2 | (simp only [List.map_set]; done)))
              · refine WA_skip ?_
                refine V_regionZ Γ Δ Θ [] [0, 2, 3, 4, 5, 8, 13, 25, 32, 44] (evs ?_)
                all_goals (try with_reducible (repeat' (first | apply And.intro | intro _)))
                all_goals (try (first | with_reducible refine wa_id ?_ | exact True.intro | omega))
                refine V_next [] (q + 1, A) (evs ?_) ?_ ?_
                all_goals (try with_reducible (repeat' (first | apply And.intro | intro _)))
                all_goals (first | exact True.intro | omega | (first | exact (C1_n' hJ.2 hJ.1 ‹_› ‹l.length ≤ maxLen› hc).1 | exact (C1_n' hJ.2 hJ.1 ‹_› ‹l.length ≤ maxLen› hc).2.1 | exact (C1_n' hJ.2 hJ.1 ‹_› ‹l.length ≤ maxLen› hc).2.2 | exact (C1_y' hJ.2 hJ.1 ‹_› ‹l.length ≤ maxLen› hc).1 | exact (C1_y' hJ.2 hJ.1 ‹_› ‹l.length ≤ maxLen› hc).2.1 | exact (C1_y' hJ.2 hJ.1 ‹_› ‹l.length ≤ maxLen› hc).2.2 | (simp only [List.map_set]; done)))
            · refine V_exit (evs ?_)
              refine WA_seq (x := (fcd Tryz.f78 [1, 1, 0, 1, 0, 0, 1, 0, 0, 1, 0, 1, 1, 0])) (y := (fcd Tryz.f78 [1, 1, 0, 1, 0, 0, 1, 0, 0, 1, 0, 1, 1, 1])) ?_
              refine V_regionZ Γ Δ Θ [] [0, 2, 3, 4, 5, 8, 13, 25, 32, 44] (evs ?_)
              have hE := C1_end hJ.2 (by omega)
              have hcl := cmp_len l
              have hJ1 := hJ.2
              have hJ2 := hJ1.e
              have hJ3 := hJ1.a
              have hJ4 := hJ1.b
              rw [hE.1] at hJ4
              simp only [hE.1]
              all_goals (try with_reducible (repeat' (first | apply And.intro | intro _)))
              all_goals (try (first | with_reducible refine wa_id ?_ | exact True.intro | omega))
              refine WA_seq (x := (fcd Tryz.f78 [1, 1, 0, 1, 0, 0, 1, 0, 0, 1, 0, 1, 1, 1, 0])) (y := (fcd Tryz.f78 [1, 1, 0, 1, 0, 0, 1, 0, 0, 1, 0, 1, 1, 1, 1])) ?_
              refine V_regionZ Γ Δ Θ [] [0, 2, 3, 4, 5, 8, 13, 25, 32, 44] (evs ?_)
              all_goals (try with_reducible (repeat' (first | apply And.intro | intro _)))
              all_goals (try (first | with_reducible refine wa_id ?_ | exact True.intro | omega))
              refine WA_ret (V_retZ [] () (evs ?_) ?_)
              all_goals (first | trivial | rfl | exact cmp_fin (cmp_small hc) | exact cmp_fin (C0_id hI hc) | exact cmp_out hJ.2 (by omega) | exact ⟨cmp_out hJ.2 (by omega), rfl⟩)
        · refine WA_skip ?_
          refine V_regionZ Γ Δ Θ [] [0, 2, 3, 4, 5, 8, 13, 25, 32, 44] (evs ?_)
          all_goals (try with_reducible (repeat' (first | apply And.intro | intro _)))
          all_goals (try (first | with_reducible refine wa_id ?_ | exact True.intro | omega))
          refine V_next [] (k + 1) (evs ?_) ?_ ?_
          all_goals (try with_reducible (repeat' (first | apply And.intro | intro _)))
          all_goals (first | exact True.intro | omega | (first | exact w64n ‹(k : Int) < _› ‹_› | exact C0_s hI ‹_› hc))
      · refine V_exit (evs ?_)
        refine WA_seq (x := (fcd Tryz.f78 [1, 1, 1, 0])) (y := (fcd Tryz.f78 [1, 1, 1, 1])) ?_
        refine V_regionZ Γ Δ Θ [] [0, 2, 3, 4, 5, 8, 13, 25, 32, 44] (evs ?_)
        all_goals (try with_reducible (repeat' (first | apply And.intro | intro _)))
        all_goals (try (first | with_reducible refine wa_id ?_ | exact True.intro | omega))
        refine WA_ret (V_retZ [] () (evs ?_) ?_)
        all_goals (first | trivial | rfl | exact cmp_fin (cmp_small hc) | exact cmp_fin (C0_id hI hc) | exact cmp_out hJ.2 (by omega) | exact ⟨cmp_out hJ.2 (by omega), rfl⟩)

end Go.S03

