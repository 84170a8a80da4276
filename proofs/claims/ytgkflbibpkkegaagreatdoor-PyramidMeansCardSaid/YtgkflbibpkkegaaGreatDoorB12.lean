import Derived.Test.YtgkflbibpkkegaaGreatDoorF35
set_option linter.unusedSimpArgs false
set_option linter.unusedVariables false
set_option linter.unusedSimpArgs false
set_option linter.unusedVariables false
namespace Go.S35
open Go.RowKit Go.Proofs Go.Eng Go.Rect
theorem row_fn (l : List Int) (hl : l.length ≤ 256) : Eng.Fn Tryz.prog 33 [.sl 1 (l.map iC)] (.agg [.dat (.i l.length), .dat (.i 1), .own 44 4 ((l.map rowP).map pxC)]) := by
  refine Eng.Fn.by (fn := Tryz.f33) 24 [.cell 2 31] Tryz.func33 rfl Tryz.ntmps33 rfl (by simp) fun w0 G0 => ?_
  refine WA_seq (x := (fcd Tryz.f33 [0])) (y := (fcd Tryz.f33 [1])) ?_
  refine V_regionX Γ Δ [] [0, 2, 3, 5, 9, 10, 11, 12] (evs ?_)
  all_goals (try with_reducible (repeat' (first | apply And.intro | intro _)))
  all_goals (try (first | with_reducible refine wa_id ?_ | exact True.intro | omega | exact (rowK_len hK).symm | (rw [rowK_len hK]; omega)))
  refine WA_seq (x := (fcd Tryz.f33 [1, 0])) (y := (fcd Tryz.f33 [1, 1])) ?_
  refine V_regionX Γ Δ [] [0, 2, 3, 5, 9, 10, 11, 12] (evs ?_)
  all_goals (try with_reducible (repeat' (first | apply And.intro | intro _)))
  all_goals (try (first | with_reducible refine wa_id ?_ | exact True.intro | omega | exact (rowK_len hK).symm | (rw [rowK_len hK]; omega)))
  refine WA_seq (x := (fcd Tryz.f33 [1, 1, 0])) (y := (fcd Tryz.f33 [1, 1, 1])) ?_
  refine WA_seq (x := (fcd Tryz.f33 [1, 1, 0, 0])) (y := (fcd Tryz.f33 [1, 1, 0, 1])) ?_
  refine V_regionX Γ Δ [] [0, 2, 3, 5, 9, 10, 11, 12] (evs ?_)
  all_goals (try with_reducible (repeat' (first | apply And.intro | intro _)))
  all_goals (try (first | with_reducible refine wa_id ?_ | exact True.intro | omega | exact (rowK_len hK).symm | (rw [rowK_len hK]; omega)))
  refine WA_block (c := (fcd Tryz.f33 [1, 1, 0, 1, 0])) ?_
  refine V_loop (c := (fcd Tryz.f33 [1, 1, 0, 1, 0, 0])) (α := Nat) [5, 11, 12] [3, 19, 20] (fun k => [(11, .dat (.i (k : Int)))]) (fun k => [(20000, some (true, .arr 44 4 ((rowK l k).map pxC))), (3, some (true, .box 31 [.dat (.i (l.length : Int)), .dat (.i 1), .vw 20000 0 (k) 4]))]) (fun k => k ≤ l.length) (fun k => l.length - k) 0 [(20000, none)] ?_ (evs ?_) ?_
  · exact Nat.zero_le _
  · (try with_reducible (repeat' (first | apply And.intro | intro _)))
    all_goals (first | exact True.intro | omega | (first | rfl))
  · intro k hK
    refine WA_seq (x := (fcd Tryz.f33 [1, 1, 0, 1, 0, 0, 0])) (y := (fcd Tryz.f33 [1, 1, 0, 1, 0, 0, 1])) ?_
    refine V_regionX Γ Δ [] [0, 2, 3, 5, 9, 10, 11, 12] (evs ?_)
    all_goals (try with_reducible (repeat' (first | apply And.intro | intro _)))
    all_goals (try (first | with_reducible refine wa_id ?_ | exact True.intro | omega | exact (rowK_len hK).symm | (rw [rowK_len hK]; omega)))
    refine WA_seq (x := (fcd Tryz.f33 [1, 1, 0, 1, 0, 0, 1, 0])) (y := (fcd Tryz.f33 [1, 1, 0, 1, 0, 0, 1, 1])) ?_
    refine V_cond (evs ?_)
    refine ⟨fun hc => ?_, fun hc => ?_⟩
    · refine WA_skip ?_
      refine WA_seq (x := (fcd Tryz.f33 [1, 1, 0, 1, 0, 0, 1, 1, 0])) (y := (fcd Tryz.f33 [1, 1, 0, 1, 0, 0, 1, 1, 1])) ?_
      refine WA_block (c := (fcd Tryz.f33 [1, 1, 0, 1, 0, 0, 1, 1, 0, 0])) ?_
      refine WA_seq (x := (fcd Tryz.f33 [1, 1, 0, 1, 0, 0, 1, 1, 0, 0, 0])) (y := (fcd Tryz.f33 [1, 1, 0, 1, 0, 0, 1, 1, 0, 0, 1])) ?_
      refine V_regionX Γ Δ [] [0, 2, 3, 5, 9, 10, 11, 12] (evs ?_)
      all_goals (try with_reducible (repeat' (first | apply And.intro | intro _)))
      all_goals (try (first | with_reducible refine wa_id ?_ | exact True.intro | omega | exact (rowK_len hK).symm | (rw [rowK_len hK]; omega)))
      refine V_regionX Γ Δ [] [0, 2, 3, 5, 9, 10, 11, 12] (evs ?_)
      all_goals (try with_reducible (repeat' (first | apply And.intro | intro _)))
      all_goals (try (first | with_reducible refine wa_id ?_ | exact True.intro | omega | exact (rowK_len hK).symm | (rw [rowK_len hK]; omega)))
      refine V_regionX Γ Δ [] [0, 2, 3, 5, 9, 10, 11, 12] (evs ?_)
      all_goals (try with_reducible (repeat' (first | apply And.intro | intro _)))
      all_goals (try (first | with_reducible refine wa_id ?_ | exact True.intro | omega | exact (rowK_len hK).symm | (rw [rowK_len hK]; omega)))
      refine V_next [(20000, some 20)] (k + 1) (evs ?_) ?_ ?_
      all_goals (try with_reducible (repeat' (first | apply And.intro | intro _)))
      all_goals (first | exact True.intro | omega | (first | exact w64l (n := 256) (by omega) (by omega) | (rw [rowK_s ‹_›, List.map_append]; rfl) | (rw [rowK_len (by omega)]; done)))
    · refine V_exit (evs ?_)
      refine WA_seq (x := (fcd Tryz.f33 [1, 1, 1, 0])) (y := (fcd Tryz.f33 [1, 1, 1, 1])) ?_
      refine V_regionX Γ Δ [] [0, 2, 3, 5, 9, 10, 11, 12] (evs ?_)
      all_goals (try with_reducible (repeat' (first | apply And.intro | intro _)))
      all_goals (try (first | with_reducible refine wa_id ?_ | exact True.intro | omega | exact (rowK_len hK).symm | (rw [rowK_len hK]; omega)))
      refine V_ret (evs ?_)
      first | (rw [rowK_all hc]; exact ⟨rfl, rfl, rfl⟩) | (have hk2 : k = l.length := by omega); subst hk2; first | (rw [rowK_all (by omega)]; done) | (simp [rowK_all]; done)

theorem sameI_fn (a b : Im) : Eng.Fn Tryz.prog 19 [imD a, imD b] (.dat (.b (sameI a b))) := by
  refine Eng.Fn.by (fn := Tryz.f19) 45 [.tmp 4] Tryz.func19 rfl Tryz.ntmps19 rfl (by simp) fun w0 G0 => ?_
  refine WA_seq (x := (fcd Tryz.f19 [0])) (y := (fcd Tryz.f19 [1])) ?_
  refine V_regionX Γ Δ [] [0, 1, 2, 3, 4, 5, 26, 29, 30, 31, 43] (evs ?_)
  all_goals (try with_reducible (repeat' (first | apply And.intro | intro _)))
  all_goals (try (first | with_reducible refine wa_id ?_ | exact True.intro | omega))
  refine WA_seq (x := (fcd Tryz.f19 [1, 0])) (y := (fcd Tryz.f19 [1, 1])) ?_
  refine WA_seq (x := (fcd Tryz.f19 [1, 0, 0])) (y := (fcd Tryz.f19 [1, 0, 1])) ?_
  refine V_regionX Γ Δ [] [0, 1, 2, 3, 4, 5, 26, 29, 30, 31, 43] (evs ?_)
  all_goals (try with_reducible (repeat' (first | apply And.intro | intro _)))
  all_goals (try (first | with_reducible refine wa_id ?_ | exact True.intro | omega))
  refine V_cond (evs ?_)
  refine ⟨fun hc => ?_, fun hc => ?_⟩
  · refine WA_seq (x := (fcd Tryz.f19 [1, 0, 1, 0, 0])) (y := (fcd Tryz.f19 [1, 0, 1, 0, 1])) ?_
    refine V_regionX Γ Δ [] [0, 1, 2, 3, 4, 5, 26, 29, 30, 31, 43] (evs ?_)
    all_goals (try with_reducible (repeat' (first | apply And.intro | intro _)))
    all_goals (try (first | with_reducible refine wa_id ?_ | exact True.intro | omega))
    refine V_ret (evs ?_)
    first | exact si_1 hc | exact si_2x (px_neB hc) | exact si_3 ‹_› hI.2 hc
  · refine WA_skip ?_
    refine WA_seq (x := (fcd Tryz.f19 [1, 1, 0])) (y := (fcd Tryz.f19 [1, 1, 1])) ?_
    refine WA_seq (x := (fcd Tryz.f19 [1, 1, 0, 0])) (y := (fcd Tryz.f19 [1, 1, 0, 1])) ?_
    refine V_regionX Γ Δ [] [0, 1, 2, 3, 4, 5, 26, 29, 30, 31, 43] (evs ?_)
    all_goals (try with_reducible (repeat' (first | apply And.intro | intro _)))
    all_goals (try (first | with_reducible refine wa_id ?_ | exact True.intro | omega))
    refine WA_block (c := (fcd Tryz.f19 [1, 1, 0, 1, 0])) ?_
    refine V_loop (c := (fcd Tryz.f19 [1, 1, 0, 1, 0, 0])) (α := Nat) [4, 5, 30, 31, 43] [] (fun k => [(30, .dat (.i (k : Int)))]) (fun k => []) (fun k => k ≤ a.p.length ∧ ∀ j, j < k → a.p.getD j zP = b.p.getD j zP) (fun k => a.p.length - k) 0 [] ?_ (evs ?_) ?_
    · exact ⟨Nat.zero_le _, fun j hj => by omega⟩
    · (try with_reducible (repeat' (first | apply And.intro | intro _)))
      all_goals (first | exact True.intro | omega | (first | rfl))
    · intro k hI
      refine WA_seq (x := (fcd Tryz.f19 [1, 1, 0, 1, 0, 0, 0])) (y := (fcd Tryz.f19 [1, 1, 0, 1, 0, 0, 1])) ?_
      refine V_regionX Γ Δ [] [0, 1, 2, 3, 4, 5, 26, 29, 30, 31, 43] (evs ?_)
      all_goals (try with_reducible (repeat' (first | apply And.intro | intro _)))
      all_goals (try (first | with_reducible refine wa_id ?_ | exact True.intro | omega))
      refine WA_seq (x := (fcd Tryz.f19 [1, 1, 0, 1, 0, 0, 1, 0])) (y := (fcd Tryz.f19 [1, 1, 0, 1, 0, 0, 1, 1])) ?_
      refine V_cond (evs ?_)
      refine ⟨fun hc => ?_, fun hc => ?_⟩
      · refine WA_skip ?_
        refine WA_seq (x := (fcd Tryz.f19 [1, 1, 0, 1, 0, 0, 1, 1, 0])) (y := (fcd Tryz.f19 [1, 1, 0, 1, 0, 0, 1, 1, 1])) ?_
        refine WA_block (c := (fcd Tryz.f19 [1, 1, 0, 1, 0, 0, 1, 1, 0, 0])) ?_
        refine WA_seq (x := (fcd Tryz.f19 [1, 1, 0, 1, 0, 0, 1, 1, 0, 0, 0])) (y := (fcd Tryz.f19 [1, 1, 0, 1, 0, 0, 1, 1, 0, 0, 1])) ?_
        refine V_regionX Γ Δ [] [0, 1, 2, 3, 4, 5, 26, 29, 30, 31, 43] (evs ?_)
        all_goals (try with_reducible (repeat' (first | apply And.intro | intro _)))
        all_goals (try (first | with_reducible refine wa_id ?_ | exact True.intro | omega))
        refine WA_seq (x := (fcd Tryz.f19 [1, 1, 0, 1, 0, 0, 1, 1, 0, 0, 1, 0])) (y := (fcd Tryz.f19 [1, 1, 0, 1, 0, 0, 1, 1, 0, 0, 1, 1])) ?_
        refine V_draw Γ [] [0, 1, 2, 3, 4, 5, 26, 29, 30, 31, 43] mixed (by kernel_rfl) (evs ?_)
        all_goals (try with_reducible (repeat' (first | apply And.intro | intro _)))
        all_goals (try (first | with_reducible refine wa_id ?_ | exact True.intro | omega))
        refine V_cond (evs ?_)
        refine ⟨fun hc => ?_, fun hc => ?_⟩
        · refine WA_seq (x := (fcd Tryz.f19 [1, 1, 0, 1, 0, 0, 1, 1, 0, 0, 1, 1, 0, 0])) (y := (fcd Tryz.f19 [1, 1, 0, 1, 0, 0, 1, 1, 0, 0, 1, 1, 0, 1])) ?_
          refine V_regionX Γ Δ [] [0, 1, 2, 3, 4, 5, 26, 29, 30, 31, 43] (evs ?_)
          all_goals (try with_reducible (repeat' (first | apply And.intro | intro _)))
          all_goals (try (first | with_reducible refine wa_id ?_ | exact True.intro | omega))
          refine V_ret (evs ?_)
          first | exact si_1 hc | exact si_2x (px_neB hc) | exact si_3 ‹_› hI.2 hc
        · refine WA_skip ?_
          refine V_regionX Γ Δ [] [0, 1, 2, 3, 4, 5, 26, 29, 30, 31, 43] (evs ?_)
          all_goals (try with_reducible (repeat' (first | apply And.intro | intro _)))
          all_goals (try (first | with_reducible refine wa_id ?_ | exact True.intro | omega))
          refine V_next [] (k + 1) (evs ?_) ?_ ?_
          all_goals (try with_reducible (repeat' (first | apply And.intro | intro _)))
          all_goals (first | exact True.intro | omega | (first | exact w64l ‹(k : Int) < _› ‹a.p.length ≤ 281474976710656› | exact si_4x hI.2 (px_eq hc) _ ‹_›))
      · refine V_exit (evs ?_)
        refine WA_seq (x := (fcd Tryz.f19 [1, 1, 1, 0])) (y := (fcd Tryz.f19 [1, 1, 1, 1])) ?_
        refine V_regionX Γ Δ [] [0, 1, 2, 3, 4, 5, 26, 29, 30, 31, 43] (evs ?_)
        all_goals (try with_reducible (repeat' (first | apply And.intro | intro _)))
        all_goals (try (first | with_reducible refine wa_id ?_ | exact True.intro | omega))
        refine V_ret (evs ?_)
        first | exact si_1 hc | exact si_2x (px_neB hc) | exact si_3 ‹_› hI.2 hc

end Go.S35

