import Derived.Test.YtnbeigcjhpldmaaGreatF03
set_option linter.unusedSimpArgs false
set_option linter.unusedVariables false
set_option linter.unusedSimpArgs false
set_option linter.unusedVariables false
namespace Go.S03
open Go.RowKit Go.Proofs Go.Eng Go.Rect
set_option maxHeartbeats 4000000 in
set_option maxRecDepth 100000 in
theorem sorted_fn (l : List Int) (hl : l.length ≤ 4096) : Eng.Fn Tryz.prog 39 [.sl 1 (l.map iC)] (.own 3 1 ((srtU [] l).map iC)) := by
  refine Eng.Fn.by (fn := Tryz.f39) 72 [.tmp 2] Tryz.func39 rfl Tryz.ntmps39 rfl (by simp) fun w0 G0 => ?_
  refine WA_seq (x := (fcd Tryz.f39 [0])) (y := (fcd Tryz.f39 [1])) ?_
  refine V_regionX Γ Δ [] [0, 2, 3, 4, 5, 6, 8, 9, 10, 26, 43, 52] (evs ?_)
  all_goals (try with_reducible (repeat' (first | apply And.intro | intro _)))
  all_goals (try (first | with_reducible refine wa_id ?_ | exact True.intro | omega))
  refine WA_seq (x := (fcd Tryz.f39 [1, 0])) (y := (fcd Tryz.f39 [1, 1])) ?_
  refine V_regionX Γ Δ [] [0, 2, 3, 4, 5, 6, 8, 9, 10, 26, 43, 52] (evs ?_)
  all_goals (try with_reducible (repeat' (first | apply And.intro | intro _)))
  all_goals (try (first | with_reducible refine wa_id ?_ | exact True.intro | omega))
  refine WA_seq (x := (fcd Tryz.f39 [1, 1, 0])) (y := (fcd Tryz.f39 [1, 1, 1])) ?_
  refine WA_seq (x := (fcd Tryz.f39 [1, 1, 0, 0])) (y := (fcd Tryz.f39 [1, 1, 0, 1])) ?_
  refine V_regionX Γ Δ [] [0, 2, 3, 4, 5, 6, 8, 9, 10, 26, 43, 52] (evs ?_)
  all_goals (try with_reducible (repeat' (first | apply And.intro | intro _)))
  all_goals (try (first | with_reducible refine wa_id ?_ | exact True.intro | omega))
  refine WA_block (c := (fcd Tryz.f39 [1, 1, 0, 1, 0])) ?_
  refine V_loop (c := (fcd Tryz.f39 [1, 1, 0, 1, 0, 0])) (α := Nat) [3, 4, 5, 6, 9, 10, 26, 43, 52] [45, 46] (fun k => [(9, .dat (.i (k : Int))), (3, .vw 20000 0 (suK l k).length 1)]) (fun k => [(20000, some (true, .arr 3 1 ((suK l k).map iC)))]) (fun k => k ≤ l.length) (fun k => l.length - k) 0 [(20000, none)] ?_ (evs ?_) ?_
  · exact Nat.zero_le _
  · (try with_reducible (repeat' (first | apply And.intro | intro _)))
    all_goals (first | exact True.intro | omega | (first | rfl))
  · intro k hI
    refine WA_seq (x := (fcd Tryz.f39 [1, 1, 0, 1, 0, 0, 0])) (y := (fcd Tryz.f39 [1, 1, 0, 1, 0, 0, 1])) ?_
    refine V_regionX Γ Δ [] [0, 2, 3, 4, 5, 6, 8, 9, 10, 26, 43, 52] (evs ?_)
    all_goals (try with_reducible (repeat' (first | apply And.intro | intro _)))
    all_goals (try (first | with_reducible refine wa_id ?_ | exact True.intro | omega))
    refine WA_seq (x := (fcd Tryz.f39 [1, 1, 0, 1, 0, 0, 1, 0])) (y := (fcd Tryz.f39 [1, 1, 0, 1, 0, 0, 1, 1])) ?_
    refine V_cond (evs ?_)
    refine ⟨fun hc => ?_, fun hc => ?_⟩
    · refine WA_skip ?_
      refine WA_seq (x := (fcd Tryz.f39 [1, 1, 0, 1, 0, 0, 1, 1, 0])) (y := (fcd Tryz.f39 [1, 1, 0, 1, 0, 0, 1, 1, 1])) ?_
      refine WA_block (c := (fcd Tryz.f39 [1, 1, 0, 1, 0, 0, 1, 1, 0, 0])) ?_
      refine WA_seq (x := (fcd Tryz.f39 [1, 1, 0, 1, 0, 0, 1, 1, 0, 0, 0])) (y := (fcd Tryz.f39 [1, 1, 0, 1, 0, 0, 1, 1, 0, 0, 1])) ?_
      refine V_regionX Γ Δ [] [0, 2, 3, 4, 5, 6, 8, 9, 10, 26, 43, 52] (evs ?_)
      all_goals (try with_reducible (repeat' (first | apply And.intro | intro _)))
      all_goals (try (first | with_reducible refine wa_id ?_ | exact True.intro | omega))
      refine WA_seq (x := (fcd Tryz.f39 [1, 1, 0, 1, 0, 0, 1, 1, 0, 0, 1, 0])) (y := (fcd Tryz.f39 [1, 1, 0, 1, 0, 0, 1, 1, 0, 0, 1, 1])) ?_
      refine V_regionX Γ Δ [] [0, 2, 3, 4, 5, 6, 8, 9, 10, 26, 43, 52] (evs ?_)
      all_goals (try with_reducible (repeat' (first | apply And.intro | intro _)))
      all_goals (try (first | with_reducible refine wa_id ?_ | exact True.intro | omega))
      refine WA_seq (x := (fcd Tryz.f39 [1, 1, 0, 1, 0, 0, 1, 1, 0, 0, 1, 1, 0])) (y := (fcd Tryz.f39 [1, 1, 0, 1, 0, 0, 1, 1, 0, 0, 1, 1, 1])) ?_
      refine WA_block (c := (fcd Tryz.f39 [1, 1, 0, 1, 0, 0, 1, 1, 0, 0, 1, 1, 0, 0])) ?_
      refine V_loop (c := (fcd Tryz.f39 [1, 1, 0, 1, 0, 0, 1, 1, 0, 0, 1, 1, 0, 0, 0])) (α := Nat) [5, 26] [] (fun j => [(5, .dat (.i (j : Int)))]) (fun j => []) (fun j => j ≤ ltN (suK l k) (l.getD k 0)) (fun j => ltN (suK l k) (l.getD k 0) - j) 0 [] ?_ (evs ?_) ?_
      · exact Nat.zero_le _
      · (try with_reducible (repeat' (first | apply And.intro | intro _)))
        all_goals (first | exact True.intro | omega | (first | rfl))
      · intro j hJ
        refine WA_seq (x := (fcd Tryz.f39 [1, 1, 0, 1, 0, 0, 1, 1, 0, 0, 1, 1, 0, 0, 0, 0])) (y := (fcd Tryz.f39 [1, 1, 0, 1, 0, 0, 1, 1, 0, 0, 1, 1, 0, 0, 0, 1])) ?_
        refine WA_seq (x := (fcd Tryz.f39 [1, 1, 0, 1, 0, 0, 1, 1, 0, 0, 1, 1, 0, 0, 0, 0, 0])) (y := (fcd Tryz.f39 [1, 1, 0, 1, 0, 0, 1, 1, 0, 0, 1, 1, 0, 0, 0, 0, 1])) ?_
        refine V_draw Γ [] [0, 2, 3, 4, 5, 6, 8, 9, 10, 26, 43, 52] mixed (by kernel_rfl) (evs ?_)
        have hsl := su_len l k
        
        all_goals (try with_reducible (repeat' (first | apply And.intro | intro _)))
        all_goals (try (first | with_reducible refine wa_id ?_ | exact True.intro | omega))
        refine V_cond (evs ?_)
        refine ⟨fun hc => ?_, fun hc => ?_⟩
        · refine WA_skip ?_
          refine WA_block (c := (fcd Tryz.f39 [1, 1, 0, 1, 0, 0, 1, 1, 0, 0, 1, 1, 0, 0, 0, 1, 0])) ?_
          refine V_regionX Γ Δ [] [0, 2, 3, 4, 5, 6, 8, 9, 10, 26, 43, 52] (evs ?_)
          all_goals (try with_reducible (repeat' (first | apply And.intro | intro _)))
          all_goals (try (first | with_reducible refine wa_id ?_ | exact True.intro | omega))
          refine V_next [] (j + 1) (evs ?_) ?_ ?_
          all_goals (try with_reducible (repeat' (first | apply And.intro | intro _)))
          all_goals (first | exact True.intro | omega | (first | exact w64l (n := 5000) (by omega) (by omega) | exact lt_s hJ hc | (have := lt_s hJ hc; omega)))
        · refine V_exit (evs ?_)
          refine WA_seq (x := (fcd Tryz.f39 [1, 1, 0, 1, 0, 0, 1, 1, 0, 0, 1, 1, 1, 0])) (y := (fcd Tryz.f39 [1, 1, 0, 1, 0, 0, 1, 1, 0, 0, 1, 1, 1, 1])) ?_
          refine WA_seq (x := (fcd Tryz.f39 [1, 1, 0, 1, 0, 0, 1, 1, 0, 0, 1, 1, 1, 0, 0])) (y := (fcd Tryz.f39 [1, 1, 0, 1, 0, 0, 1, 1, 0, 0, 1, 1, 1, 0, 1])) ?_
          refine V_draw Γ [] [0, 2, 3, 4, 5, 6, 8, 9, 10, 26, 43, 52] mixed (by kernel_rfl) (evs ?_)
          have hsl := su_len l k
          have hlt := lt_le (suK l k) (l.getD k 0)
          have hjw := lt_eq hJ hc
          subst hjw
          
          all_goals (try with_reducible (repeat' (first | apply And.intro | intro _)))
          all_goals (try (first | with_reducible refine wa_id ?_ | exact True.intro | omega))
          refine V_cond (evs ?_)
          refine ⟨fun hc => ?_, fun hc => ?_⟩
          · refine V_exit (evs ?_)
            refine V_regionX Γ Δ [] [0, 2, 3, 4, 5, 6, 8, 9, 10, 26, 43, 52] (evs ?_)
            all_goals (try with_reducible (repeat' (first | apply And.intro | intro _)))
            all_goals (try (first | with_reducible refine wa_id ?_ | exact True.intro | omega))
            refine V_next [] (k + 1) (evs ?_) ?_ ?_
            all_goals (try with_reducible (repeat' (first | apply And.intro | intro _)))
            all_goals (first | exact True.intro | omega | (first | exact w64l ‹(k : Int) < _› ‹l.length ≤ 281474976710656› | (rw [suA ‹(k : Int) < _› hc]; done) | exact suBm ‹(k : Int) < _› ‹_› hM.1 hc | exact (suB (c := c) ‹(k : Int) < _› ‹_› rfl).2))
          · refine WA_skip ?_
            refine WA_seq (x := (fcd Tryz.f39 [1, 1, 0, 1, 0, 0, 1, 1, 0, 0, 1, 1, 1, 1, 0])) (y := (fcd Tryz.f39 [1, 1, 0, 1, 0, 0, 1, 1, 0, 0, 1, 1, 1, 1, 1])) ?_
            refine V_regionX Γ Δ [] [0, 2, 3, 4, 5, 6, 8, 9, 10, 26, 43, 52] (evs ?_)
            have hsl := su_len l k
            all_goals (try with_reducible (repeat' (first | apply And.intro | intro _)))
            all_goals (try (first | with_reducible refine wa_id ?_ | exact True.intro | omega))
            refine WA_seq (x := (fcd Tryz.f39 [1, 1, 0, 1, 0, 0, 1, 1, 0, 0, 1, 1, 1, 1, 1, 0])) (y := (fcd Tryz.f39 [1, 1, 0, 1, 0, 0, 1, 1, 0, 0, 1, 1, 1, 1, 1, 1])) ?_
            refine WA_seq (x := (fcd Tryz.f39 [1, 1, 0, 1, 0, 0, 1, 1, 0, 0, 1, 1, 1, 1, 1, 0, 0])) (y := (fcd Tryz.f39 [1, 1, 0, 1, 0, 0, 1, 1, 0, 0, 1, 1, 1, 1, 1, 0, 1])) ?_
            refine V_regionX Γ Δ [] [0, 2, 3, 4, 5, 6, 8, 9, 10, 26, 43, 52] (evs ?_)
            have hsl := su_len l k
            (try simp (maxSteps := 10000000) (disch := omega) only [w64])
            simp only [cast_ps]
            all_goals (try with_reducible (repeat' (first | apply And.intro | intro _)))
            all_goals (try (first | with_reducible refine wa_id ?_ | exact True.intro | omega))
            refine WA_block (c := (fcd Tryz.f39 [1, 1, 0, 1, 0, 0, 1, 1, 0, 0, 1, 1, 1, 1, 1, 0, 1, 0])) ?_
            refine V_loop (c := (fcd Tryz.f39 [1, 1, 0, 1, 0, 0, 1, 1, 0, 0, 1, 1, 1, 1, 1, 0, 1, 0, 0])) (α := Nat × Int) [3, 6, 52] [46, 20000] (fun p => [(6, .dat (.i (p.1 : Int))), (3, .vw 20001 0 ((suK l k).length + 1) 1)]) (fun p => [(20001, some (true, .arr 3 1 ((shA (suK l k) p.1 p.2).map iC)))]) (fun p => ltN (suK l k) (l.getD k 0) ≤ p.1 ∧ p.1 ≤ (suK l k).length) (fun p => p.1) ((suK l k).length, 0) [(20001, some 46)] ?_ (evs ?_) ?_
            · exact ⟨lt_le _ _, Nat.le_refl _⟩
            · (try with_reducible (repeat' (first | apply And.intro | intro _)))
              all_goals (first | exact True.intro | omega | (first | rfl | (rw [← sh_0, List.map_append]; rfl)))
            · rintro ⟨m, c⟩ hM
              simp only at hM
              refine WA_seq (x := (fcd Tryz.f39 [1, 1, 0, 1, 0, 0, 1, 1, 0, 0, 1, 1, 1, 1, 1, 0, 1, 0, 0, 0])) (y := (fcd Tryz.f39 [1, 1, 0, 1, 0, 0, 1, 1, 0, 0, 1, 1, 1, 1, 1, 0, 1, 0, 0, 1])) ?_
              refine WA_seq (x := (fcd Tryz.f39 [1, 1, 0, 1, 0, 0, 1, 1, 0, 0, 1, 1, 1, 1, 1, 0, 1, 0, 0, 0, 0])) (y := (fcd Tryz.f39 [1, 1, 0, 1, 0, 0, 1, 1, 0, 0, 1, 1, 1, 1, 1, 0, 1, 0, 0, 0, 1])) ?_
              refine V_regionX Γ Δ [] [0, 2, 3, 4, 5, 6, 8, 9, 10, 26, 43, 52] (evs ?_)
              all_goals (try with_reducible (repeat' (first | apply And.intro | intro _)))
              all_goals (try (first | with_reducible refine wa_id ?_ | exact True.intro | omega))
              refine V_cond (evs ?_)
              refine ⟨fun hc => ?_, fun hc => ?_⟩
              · refine WA_skip ?_
                refine WA_seq (x := (fcd Tryz.f39 [1, 1, 0, 1, 0, 0, 1, 1, 0, 0, 1, 1, 1, 1, 1, 0, 1, 0, 0, 1, 0])) (y := (fcd Tryz.f39 [1, 1, 0, 1, 0, 0, 1, 1, 0, 0, 1, 1, 1, 1, 1, 0, 1, 0, 0, 1, 1])) ?_
                refine WA_block (c := (fcd Tryz.f39 [1, 1, 0, 1, 0, 0, 1, 1, 0, 0, 1, 1, 1, 1, 1, 0, 1, 0, 0, 1, 0, 0])) ?_
                refine V_regionX Γ Δ [] [0, 2, 3, 4, 5, 6, 8, 9, 10, 26, 43, 52] (evs ?_)
                have hsh := shA_len (O := suK l k) (m := m) (c := c) hM.2
                have hsl := su_len l k
                have hltw := lt_le (suK l k) (l.getD k 0)
                have hsx := sh_at (O := suK l k) (m := m) (c := c) (by omega) hM.2
                (try simp (maxSteps := 10000000) (disch := omega) only [w64])
                try simp only [hsx]
                all_goals (try with_reducible (repeat' (first | apply And.intro | intro _)))
                all_goals (try (first | with_reducible refine wa_id ?_ | exact True.intro | omega))
                refine V_regionX Γ Δ [] [0, 2, 3, 4, 5, 6, 8, 9, 10, 26, 43, 52] (evs ?_)
                all_goals (try with_reducible (repeat' (first | apply And.intro | intro _)))
                all_goals (try (first | with_reducible refine wa_id ?_ | exact True.intro | omega))
                refine V_next [] (m - 1, ((suK l k)).getD (m - 1) 0) (evs ?_) ?_ ?_
                all_goals (try with_reducible (repeat' (first | apply And.intro | intro _)))
                all_goals (first | exact True.intro | omega | (first | rfl | (rw [sh_m (by omega) hM.2]; done) | (rw [w64 (by omega) (by omega)]; omega)))
              · refine V_exit (evs ?_)
                refine V_regionX Γ Δ [] [0, 2, 3, 4, 5, 6, 8, 9, 10, 26, 43, 52] (evs ?_)
                have hsh := shA_len (O := suK l k) (m := m) (c := c) hM.2
                have hltw := lt_le (suK l k) (l.getD k 0)
                all_goals (try with_reducible (repeat' (first | apply And.intro | intro _)))
                all_goals (try (first | with_reducible refine wa_id ?_ | exact True.intro | omega))
                refine V_regionX Γ Δ [] [0, 2, 3, 4, 5, 6, 8, 9, 10, 26, 43, 52] (evs ?_)
                all_goals (try with_reducible (repeat' (first | apply And.intro | intro _)))
                all_goals (try (first | with_reducible refine wa_id ?_ | exact True.intro | omega))
                refine V_next [(20000, some 20001)] (k + 1) (evs ?_) ?_ ?_
                all_goals (try with_reducible (repeat' (first | apply And.intro | intro _)))
                all_goals (first | exact True.intro | omega | (first | exact w64l ‹(k : Int) < _› ‹l.length ≤ 281474976710656› | (rw [suA ‹(k : Int) < _› hc]; done) | exact suBm ‹(k : Int) < _› ‹_› hM.1 hc | exact (suB (c := c) ‹(k : Int) < _› ‹_› rfl).2))
    · refine V_exit (evs ?_)
      refine WA_seq (x := (fcd Tryz.f39 [1, 1, 1, 0])) (y := (fcd Tryz.f39 [1, 1, 1, 1])) ?_
      refine V_regionX Γ Δ [] [0, 2, 3, 4, 5, 6, 8, 9, 10, 26, 43, 52] (evs ?_)
      all_goals (try with_reducible (repeat' (first | apply And.intro | intro _)))
      all_goals (try (first | with_reducible refine wa_id ?_ | exact True.intro | omega))
      refine V_ret (evs ?_)
      first | exact True.intro | rfl | (rw [su_all hc]; done) | exact ⟨congrArg List.length (su_all hc), congrArg (List.map iC) (su_all hc)⟩

end Go.S03

