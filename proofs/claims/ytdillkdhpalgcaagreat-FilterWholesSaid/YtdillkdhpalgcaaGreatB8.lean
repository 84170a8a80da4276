import Derived.Test.YtdillkdhpalgcaaGreatC6
import Derived.Test.YtdillkdhpalgcaaGreatLF
import Derived.Test.YtdillkdhpalgcaaGreatF16
set_option linter.unusedSimpArgs false
set_option linter.unusedVariables false
set_option linter.unusedSimpArgs false
set_option linter.unusedVariables false
namespace Go.S16
open Go.RowKit Go.Proofs Go.Eng Go.Rect
set_option maxHeartbeats 2000000 in
theorem whole_fn (i : Im) (k : Int) (ps : List Int) : Eng.Fn Tryz.prog 9 [imD i, .i k, .sl 1 (ps.map iC)] (.tup [.agg [.dat (.i (whlR i k ps).w), .dat (.i (whlR i k ps).h), .own 49 4 ((whlR i k ps).p.map pxC)], .dat (.i (whlE i k ps))]) := by
  refine Eng.Fn.by (fn := Tryz.f9) 42 [.cell 6 24, .tmp 7] Tryz.func9 rfl Tryz.ntmps9 rfl (by simp) fun w0 G0 => ?_
  refine WA_seq (x := (fcd Tryz.f9 [0])) (y := (fcd Tryz.f9 [1])) ?_
  refine V_regionX Γ Δ [] [0, 1, 2, 3, 6, 7, 8, 9, 10, 14, 21, 26] (evs ?_)
  all_goals (try with_reducible (repeat' (first | apply And.intro | intro _)))
  all_goals (try (first | with_reducible refine wa_id ?_ | exact True.intro | omega))
  refine WA_seq (x := (fcd Tryz.f9 [1, 0])) (y := (fcd Tryz.f9 [1, 1])) ?_
  refine WA_seq (x := (fcd Tryz.f9 [1, 0, 0])) (y := (fcd Tryz.f9 [1, 0, 1])) ?_
  refine V_regionX Γ Δ [] [0, 1, 2, 3, 6, 7, 8, 9, 10, 14, 21, 26] (evs ?_)
  all_goals (try with_reducible (repeat' (first | apply And.intro | intro _)))
  all_goals (try (first | with_reducible refine wa_id ?_ | exact True.intro | exact icheck_fn ⟨_, _, _⟩ | omega))
  refine WA_seq (x := (fcd Tryz.f9 [1, 0, 1, 0])) (y := (fcd Tryz.f9 [1, 0, 1, 1])) ?_
  refine V_regionX Γ Δ [] [0, 1, 2, 3, 6, 7, 8, 9, 10, 14, 21, 26] (evs ?_)
  all_goals (try with_reducible (repeat' (first | apply And.intro | intro _)))
  all_goals (try (first | with_reducible refine wa_id ?_ | exact True.intro | omega))
  refine V_cond (evs ?_)
  refine ⟨fun hc => ?_, fun hc => ?_⟩
  · refine WA_seq (x := (fcd Tryz.f9 [1, 0, 1, 1, 0, 0])) (y := (fcd Tryz.f9 [1, 0, 1, 1, 0, 1])) ?_
    refine V_regionX Γ Δ [] [0, 1, 2, 3, 6, 7, 8, 9, 10, 14, 21, 26] (evs ?_)
    all_goals (try with_reducible (repeat' (first | apply And.intro | intro _)))
    all_goals (try (first | with_reducible refine wa_id ?_ | exact True.intro | omega))
    refine V_ret (evs ?_)
    first | exact ik0 _ (wh1 hc) | exact ik0 _ (wh2 ‹_› hc) | exact ik0 _ (wh3 ‹_› ‹_› hc) | exact wh5 (wh4 ‹_› ‹_› ‹_›)
  · refine WA_skip ?_
    refine WA_seq (x := (fcd Tryz.f9 [1, 1, 0])) (y := (fcd Tryz.f9 [1, 1, 1])) ?_
    refine WA_seq (x := (fcd Tryz.f9 [1, 1, 0, 0])) (y := (fcd Tryz.f9 [1, 1, 0, 1])) ?_
    refine V_regionX Γ Δ [] [0, 1, 2, 3, 6, 7, 8, 9, 10, 14, 21, 26] (evs ?_)
    all_goals (try with_reducible (repeat' (first | apply And.intro | intro _)))
    all_goals (try (first | with_reducible refine wa_id ?_ | exact True.intro | exact fcheck_fn _ _ | omega))
    refine WA_seq (x := (fcd Tryz.f9 [1, 1, 0, 1, 0])) (y := (fcd Tryz.f9 [1, 1, 0, 1, 1])) ?_
    refine V_regionX Γ Δ [] [0, 1, 2, 3, 6, 7, 8, 9, 10, 14, 21, 26] (evs ?_)
    all_goals (try with_reducible (repeat' (first | apply And.intro | intro _)))
    all_goals (try (first | with_reducible refine wa_id ?_ | exact True.intro | omega))
    refine V_cond (evs ?_)
    refine ⟨fun hc => ?_, fun hc => ?_⟩
    · refine WA_seq (x := (fcd Tryz.f9 [1, 1, 0, 1, 1, 0, 0])) (y := (fcd Tryz.f9 [1, 1, 0, 1, 1, 0, 1])) ?_
      refine V_regionX Γ Δ [] [0, 1, 2, 3, 6, 7, 8, 9, 10, 14, 21, 26] (evs ?_)
      all_goals (try with_reducible (repeat' (first | apply And.intro | intro _)))
      all_goals (try (first | with_reducible refine wa_id ?_ | exact True.intro | omega))
      refine V_ret (evs ?_)
      first | exact ik0 _ (wh1 hc) | exact ik0 _ (wh2 ‹_› hc) | exact ik0 _ (wh3 ‹_› ‹_› hc) | exact wh5 (wh4 ‹_› ‹_› ‹_›)
    · refine WA_skip ?_
      refine WA_seq (x := (fcd Tryz.f9 [1, 1, 1, 0])) (y := (fcd Tryz.f9 [1, 1, 1, 1])) ?_
      refine WA_seq (x := (fcd Tryz.f9 [1, 1, 1, 0, 0])) (y := (fcd Tryz.f9 [1, 1, 1, 0, 1])) ?_
      refine V_regionX Γ Δ [] [0, 1, 2, 3, 6, 7, 8, 9, 10, 14, 21, 26] (evs ?_)
      all_goals (try with_reducible (repeat' (first | apply And.intro | intro _)))
      all_goals (try (first | with_reducible refine wa_id ?_ | exact True.intro | omega))
      refine V_cond (evs ?_)
      refine ⟨fun hc => ?_, fun hc => ?_⟩
      · refine WA_seq (x := (fcd Tryz.f9 [1, 1, 1, 0, 1, 0, 0])) (y := (fcd Tryz.f9 [1, 1, 1, 0, 1, 0, 1])) ?_
        refine V_regionX Γ Δ [] [0, 1, 2, 3, 6, 7, 8, 9, 10, 14, 21, 26] (evs ?_)
        all_goals (try with_reducible (repeat' (first | apply And.intro | intro _)))
        all_goals (try (first | with_reducible refine wa_id ?_ | exact True.intro | omega))
        refine V_ret (evs ?_)
        first | exact ik0 _ (wh1 hc) | exact ik0 _ (wh2 ‹_› hc) | exact ik0 _ (wh3 ‹_› ‹_› hc) | exact wh5 (wh4 ‹_› ‹_› ‹_›)
      · refine WA_skip ?_
        refine WA_seq (x := (fcd Tryz.f9 [1, 1, 1, 1, 0])) (y := (fcd Tryz.f9 [1, 1, 1, 1, 1])) ?_
        refine V_regionX Γ Δ [] [0, 1, 2, 3, 6, 7, 8, 9, 10, 14, 21, 26] (evs ?_)
        all_goals (try with_reducible (repeat' (first | apply And.intro | intro _)))
        all_goals (try (first | with_reducible refine wa_id ?_ | exact True.intro | omega))
        refine WA_seq (x := (fcd Tryz.f9 [1, 1, 1, 1, 1, 0])) (y := (fcd Tryz.f9 [1, 1, 1, 1, 1, 1])) ?_
        refine V_regionX Γ Δ [] [0, 1, 2, 3, 6, 7, 8, 9, 10, 14, 21, 26] (evs ?_)
        all_goals (try with_reducible (repeat' (first | apply And.intro | intro _)))
        all_goals (try (first | with_reducible refine wa_id ?_ | exact True.intro | exact apply_all ⟨_, _, _⟩ ⟨_, _⟩ ⟨_, _, _, _⟩ _ _ ⟨_, _, _, _⟩ | omega))
        refine V_ret (evs ?_)
        first | exact ik0 _ (wh1 hc) | exact ik0 _ (wh2 ‹_› hc) | exact ik0 _ (wh3 ‹_› ‹_› hc) | exact wh5 (wh4 ‹_› ‹_› ‹_›)

end Go.S16

set_option linter.unusedSimpArgs false
set_option linter.unusedVariables false
namespace Go.S16
open Go.RowKit Go.Proofs Go.Eng Go.Rect
set_option maxHeartbeats 2000000 in
set_option maxRecDepth 100000 in
theorem example_fn  : Eng.Fn Tryz.prog 8 [] (.dat (.b true)) := by
  refine Eng.Fn.by (fn := Tryz.f8) 82 [.tmp 0] Tryz.func8 rfl Tryz.ntmps8 rfl (by simp) fun w0 G0 => ?_
  refine WA_seq (x := (fcd Tryz.f8 [0])) (y := (fcd Tryz.f8 [1])) ?_
  refine V_regionX Γ Δ [19, 25] [0, 1, 2, 3, 4, 5, 6, 7, 8, 45] (evs ?_)
  all_goals (try with_reducible (repeat' (first | apply And.intro | intro _)))
  all_goals (try (first | with_reducible refine wa_id ?_ | exact True.intro | omega | exact whole_fn exI 1 [1] | exact whole_fn exI 2 [1] | exact fcheck_fn 2 [8] | exact freach_fn 9 [2, -3]))
  refine WA_seq (x := (fcd Tryz.f8 [1, 0])) (y := (fcd Tryz.f8 [1, 1])) ?_
  refine V_regionX Γ Δ [19, 25] [0, 1, 2, 3, 4, 5, 6, 7, 8, 45] (evs ?_)
  all_goals (try with_reducible (repeat' (first | apply And.intro | intro _)))
  all_goals (try (first | with_reducible refine wa_id ?_ | exact True.intro | omega | exact whole_fn exI 1 [1] | exact whole_fn exI 2 [1] | exact fcheck_fn 2 [8] | exact freach_fn 9 [2, -3]))
  refine WA_seq (x := (fcd Tryz.f8 [1, 1, 0])) (y := (fcd Tryz.f8 [1, 1, 1])) ?_
  refine V_regionX Γ Δ [19, 25] [0, 1, 2, 3, 4, 5, 6, 7, 8, 45] (evs ?_)
  all_goals (try with_reducible (repeat' (first | apply And.intro | intro _)))
  all_goals (try (first | with_reducible refine wa_id ?_ | exact True.intro | omega | exact whole_fn exI 1 [1] | exact whole_fn exI 2 [1] | exact fcheck_fn 2 [8] | exact freach_fn 9 [2, -3]))
  refine WA_seq (x := (fcd Tryz.f8 [1, 1, 1, 0])) (y := (fcd Tryz.f8 [1, 1, 1, 1])) ?_
  refine V_regionX Γ Δ [19, 25] [0, 1, 2, 3, 4, 5, 6, 7, 8, 45] (evs ?_)
  all_goals (try with_reducible (repeat' (first | apply And.intro | intro _)))
  all_goals (try (first | with_reducible refine wa_id ?_ | exact True.intro | omega | exact whole_fn exI 1 [1] | exact whole_fn exI 2 [1] | exact fcheck_fn 2 [8] | exact freach_fn 9 [2, -3]))
  refine WA_seq (x := (fcd Tryz.f8 [1, 1, 1, 1, 0])) (y := (fcd Tryz.f8 [1, 1, 1, 1, 1])) ?_
  refine V_regionX Γ Δ [19, 25] [0, 1, 2, 3, 4, 5, 6, 7, 8, 45] (evs ?_)
  all_goals (try with_reducible (repeat' (first | apply And.intro | intro _)))
  all_goals (try (first | with_reducible refine wa_id ?_ | exact True.intro | exact whole_fn ⟨_, _, _⟩ _ _ | omega | exact whole_fn exI 1 [1] | exact whole_fn exI 2 [1] | exact fcheck_fn 2 [8] | exact freach_fn 9 [2, -3]))
  simp only [exU, unIV]
  refine WA_seq (x := (fcd Tryz.f8 [1, 1, 1, 1, 1, 0])) (y := (fcd Tryz.f8 [1, 1, 1, 1, 1, 1])) ?_
  refine V_regionX Γ Δ [19, 25] [0, 1, 2, 3, 4, 5, 6, 7, 8, 45] (evs ?_)
  all_goals (try with_reducible (repeat' (first | apply And.intro | intro _)))
  all_goals (try (first | with_reducible refine wa_id ?_ | exact True.intro | exact whole_fn ⟨_, _, _⟩ _ _ | omega | exact whole_fn exI 1 [1] | exact whole_fn exI 2 [1] | exact fcheck_fn 2 [8] | exact freach_fn 9 [2, -3]))
  simp only [exU, unIV]
  refine WA_seq (x := (fcd Tryz.f8 [1, 1, 1, 1, 1, 1, 0])) (y := (fcd Tryz.f8 [1, 1, 1, 1, 1, 1, 1])) ?_
  refine WA_seq (x := (fcd Tryz.f8 [1, 1, 1, 1, 1, 1, 0, 0])) (y := (fcd Tryz.f8 [1, 1, 1, 1, 1, 1, 0, 1])) ?_
  refine V_regionX Γ Δ [19, 25] [0, 1, 2, 3, 4, 5, 6, 7, 8, 45] (evs ?_)
  all_goals (try with_reducible (repeat' (first | apply And.intro | intro _)))
  all_goals (try (first | with_reducible refine wa_id ?_ | exact True.intro | omega | exact whole_fn exI 1 [1] | exact whole_fn exI 2 [1] | exact fcheck_fn 2 [8] | exact freach_fn 9 [2, -3]))
  simp only [exB.1, exB.2.2.2, exG.1, exG.2.2, c9e, bne_self_eq_false, Bool.or_self]
  refine V_cond (evs ?_)
  refine ⟨fun hc => hc.elim, ?_⟩
  refine WA_skip ?_
  refine WA_seq (x := (fcd Tryz.f8 [1, 1, 1, 1, 1, 1, 1, 0])) (y := (fcd Tryz.f8 [1, 1, 1, 1, 1, 1, 1, 1])) ?_
  refine V_drawA Γ [(0, 1, 1000000), (1, 1, 1000000), (4, 7, 1000000), (5, 8, 1000000)] [19, 25] [0, 1, 2, 3, 4, 5, 6, 7, 8, 45] mixed (by kernel_rfl) (evs ?_)
  all_goals (try with_reducible (repeat' (first | apply And.intro | intro _)))
  all_goals (try (first | with_reducible refine wa_id ?_ | exact True.intro | omega | exact whole_fn exI 1 [1] | exact whole_fn exI 2 [1] | exact fcheck_fn 2 [8] | exact freach_fn 9 [2, -3]))
  refine WA_seq (x := (fcd Tryz.f8 [1, 1, 1, 1, 1, 1, 1, 1, 0])) (y := (fcd Tryz.f8 [1, 1, 1, 1, 1, 1, 1, 1, 1])) ?_
  refine V_regionX Γ Δ [19, 25] [0, 1, 2, 3, 4, 5, 6, 7, 8, 45] (evs ?_)
  all_goals (try with_reducible (repeat' (first | apply And.intro | intro _)))
  all_goals (try (first | with_reducible refine wa_id ?_ | exact True.intro | omega | exact whole_fn exI 1 [1] | exact whole_fn exI 2 [1] | exact fcheck_fn 2 [8] | exact freach_fn 9 [2, -3]))
  refine WA_seq (x := (fcd Tryz.f8 [1, 1, 1, 1, 1, 1, 1, 1, 1, 0])) (y := (fcd Tryz.f8 [1, 1, 1, 1, 1, 1, 1, 1, 1, 1])) ?_
  refine V_draw Γ [19, 25] [0, 1, 2, 3, 4, 5, 6, 7, 8, 45] mixed (by kernel_rfl) (evs ?_)
  simp only [exB.1, exB.2.1, exB.2.2.1, exG.1, exG.2.1, c9e, toN0, toN4]
  all_goals (try with_reducible (repeat' (first | apply And.intro | intro _)))
  all_goals (try (first | with_reducible refine wa_id ?_ | exact True.intro | exact fcheck_fn _ _ | exact freach_fn _ _ | omega | exact whole_fn exI 1 [1] | exact whole_fn exI 2 [1] | exact fcheck_fn 2 [8] | exact freach_fn 9 [2, -3]))
  refine V_ret (evs ?_)
  first | rfl | (decide +kernel)

end Go.S16

set_option linter.unusedSimpArgs false
set_option linter.unusedVariables false
namespace Go.S16
open Go.RowKit Go.Proofs Go.Eng Go.Rect
theorem sameI_fn (a b : Im) : Eng.Fn Tryz.prog 7 [imD a, imD b] (.dat (.b (sameI a b))) := by
  refine Eng.Fn.by (fn := Tryz.f7) 45 [.tmp 4] Tryz.func7 rfl Tryz.ntmps7 rfl (by simp) fun w0 G0 => ?_
  refine WA_seq (x := (fcd Tryz.f7 [0])) (y := (fcd Tryz.f7 [1])) ?_
  refine V_regionX Γ Δ [] [0, 1, 2, 3, 4, 5, 26, 31, 44] (evs ?_)
  all_goals (try with_reducible (repeat' (first | apply And.intro | intro _)))
  all_goals (try (first | with_reducible refine wa_id ?_ | exact True.intro | omega))
  refine WA_seq (x := (fcd Tryz.f7 [1, 0])) (y := (fcd Tryz.f7 [1, 1])) ?_
  refine WA_seq (x := (fcd Tryz.f7 [1, 0, 0])) (y := (fcd Tryz.f7 [1, 0, 1])) ?_
  refine V_regionX Γ Δ [] [0, 1, 2, 3, 4, 5, 26, 31, 44] (evs ?_)
  all_goals (try with_reducible (repeat' (first | apply And.intro | intro _)))
  all_goals (try (first | with_reducible refine wa_id ?_ | exact True.intro | omega))
  refine V_cond (evs ?_)
  refine ⟨fun hc => ?_, fun hc => ?_⟩
  · refine WA_seq (x := (fcd Tryz.f7 [1, 0, 1, 0, 0])) (y := (fcd Tryz.f7 [1, 0, 1, 0, 1])) ?_
    refine V_regionX Γ Δ [] [0, 1, 2, 3, 4, 5, 26, 31, 44] (evs ?_)
    all_goals (try with_reducible (repeat' (first | apply And.intro | intro _)))
    all_goals (try (first | with_reducible refine wa_id ?_ | exact True.intro | omega))
    refine V_ret (evs ?_)
    first | exact si_1 hc | exact si_2x (px_neB hc) | exact si_3 ‹_› hI.2 hc
  · refine WA_skip ?_
    refine WA_seq (x := (fcd Tryz.f7 [1, 1, 0])) (y := (fcd Tryz.f7 [1, 1, 1])) ?_
    refine WA_seq (x := (fcd Tryz.f7 [1, 1, 0, 0])) (y := (fcd Tryz.f7 [1, 1, 0, 1])) ?_
    refine V_regionX Γ Δ [] [0, 1, 2, 3, 4, 5, 26, 31, 44] (evs ?_)
    all_goals (try with_reducible (repeat' (first | apply And.intro | intro _)))
    all_goals (try (first | with_reducible refine wa_id ?_ | exact True.intro | omega))
    refine WA_block (c := (fcd Tryz.f7 [1, 1, 0, 1, 0])) ?_
    refine V_loop (c := (fcd Tryz.f7 [1, 1, 0, 1, 0, 0])) (α := Nat) [4, 5, 31, 44] [] (fun k => [(5, .dat (.i (k : Int)))]) (fun k => []) (fun k => k ≤ a.p.length ∧ ∀ j, j < k → a.p.getD j zP = b.p.getD j zP) (fun k => a.p.length - k) 0 [] ?_ (evs ?_) ?_
    · exact ⟨Nat.zero_le _, fun j hj => by omega⟩
    · (try with_reducible (repeat' (first | apply And.intro | intro _)))
      all_goals (first | exact True.intro | omega | (first | rfl))
    · intro k hI
      refine WA_seq (x := (fcd Tryz.f7 [1, 1, 0, 1, 0, 0, 0])) (y := (fcd Tryz.f7 [1, 1, 0, 1, 0, 0, 1])) ?_
      refine WA_seq (x := (fcd Tryz.f7 [1, 1, 0, 1, 0, 0, 0, 0])) (y := (fcd Tryz.f7 [1, 1, 0, 1, 0, 0, 0, 1])) ?_
      refine V_regionX Γ Δ [] [0, 1, 2, 3, 4, 5, 26, 31, 44] (evs ?_)
      all_goals (try with_reducible (repeat' (first | apply And.intro | intro _)))
      all_goals (try (first | with_reducible refine wa_id ?_ | exact True.intro | omega))
      refine V_cond (evs ?_)
      refine ⟨fun hc => ?_, fun hc => ?_⟩
      · refine WA_skip ?_
        refine WA_seq (x := (fcd Tryz.f7 [1, 1, 0, 1, 0, 0, 1, 0])) (y := (fcd Tryz.f7 [1, 1, 0, 1, 0, 0, 1, 1])) ?_
        refine WA_block (c := (fcd Tryz.f7 [1, 1, 0, 1, 0, 0, 1, 0, 0])) ?_
        refine WA_seq (x := (fcd Tryz.f7 [1, 1, 0, 1, 0, 0, 1, 0, 0, 0])) (y := (fcd Tryz.f7 [1, 1, 0, 1, 0, 0, 1, 0, 0, 1])) ?_
        refine V_draw Γ [] [0, 1, 2, 3, 4, 5, 26, 31, 44] mixed (by kernel_rfl) (evs ?_)
        all_goals (try with_reducible (repeat' (first | apply And.intro | intro _)))
        all_goals (try (first | with_reducible refine wa_id ?_ | exact True.intro | omega))
        refine V_cond (evs ?_)
        refine ⟨fun hc => ?_, fun hc => ?_⟩
        · refine WA_seq (x := (fcd Tryz.f7 [1, 1, 0, 1, 0, 0, 1, 0, 0, 1, 0, 0])) (y := (fcd Tryz.f7 [1, 1, 0, 1, 0, 0, 1, 0, 0, 1, 0, 1])) ?_
          refine V_regionX Γ Δ [] [0, 1, 2, 3, 4, 5, 26, 31, 44] (evs ?_)
          all_goals (try with_reducible (repeat' (first | apply And.intro | intro _)))
          all_goals (try (first | with_reducible refine wa_id ?_ | exact True.intro | omega))
          refine V_ret (evs ?_)
          first | exact si_1 hc | exact si_2x (px_neB hc) | exact si_3 ‹_› hI.2 hc
        · refine WA_skip ?_
          refine V_regionX Γ Δ [] [0, 1, 2, 3, 4, 5, 26, 31, 44] (evs ?_)
          all_goals (try with_reducible (repeat' (first | apply And.intro | intro _)))
          all_goals (try (first | with_reducible refine wa_id ?_ | exact True.intro | omega))
          refine V_next [] (k + 1) (evs ?_) ?_ ?_
          all_goals (try with_reducible (repeat' (first | apply And.intro | intro _)))
          all_goals (first | exact True.intro | omega | (first | exact w64l ‹(k : Int) < _› ‹a.p.length ≤ 281474976710656› | exact si_4x hI.2 (px_eq hc) _ ‹_›))
      · refine V_exit (evs ?_)
        refine WA_seq (x := (fcd Tryz.f7 [1, 1, 1, 0])) (y := (fcd Tryz.f7 [1, 1, 1, 1])) ?_
        refine V_regionX Γ Δ [] [0, 1, 2, 3, 4, 5, 26, 31, 44] (evs ?_)
        all_goals (try with_reducible (repeat' (first | apply And.intro | intro _)))
        all_goals (try (first | with_reducible refine wa_id ?_ | exact True.intro | omega))
        refine V_ret (evs ?_)
        first | exact si_1 hc | exact si_2x (px_neB hc) | exact si_3 ‹_› hI.2 hc

end Go.S16

