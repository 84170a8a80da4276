import Derived.Test.YtnbeigcjhpldmaaGreatF03
set_option linter.unusedSimpArgs false
set_option linter.unusedVariables false
set_option linter.unusedSimpArgs false
set_option linter.unusedVariables false
namespace Go.S03
open Go.RowKit Go.Proofs Go.Eng Go.Rect
theorem ralike_fn (a b : List Rc) : Eng.Fn Tryz.prog 41 [.sl 4 (a.map rcC), .sl 4 (b.map rcC)] (.dat (.b (akB a b))) := by
  refine Eng.Fn.by (fn := Tryz.f41) 41 [.tmp 4] Tryz.func41 rfl Tryz.ntmps41 rfl (by simp) fun w0 G0 => ?_
  refine WA_seq (x := (fcd Tryz.f41 [0])) (y := (fcd Tryz.f41 [1])) ?_
  refine V_regionX Γ Δ [] [0, 1, 4, 5, 10, 12, 13, 14, 39] (evs ?_)
  all_goals (try with_reducible (repeat' (first | apply And.intro | intro _)))
  all_goals (try (first | with_reducible refine wa_id ?_ | exact True.intro | omega))
  refine WA_seq (x := (fcd Tryz.f41 [1, 0])) (y := (fcd Tryz.f41 [1, 1])) ?_
  refine WA_seq (x := (fcd Tryz.f41 [1, 0, 0])) (y := (fcd Tryz.f41 [1, 0, 1])) ?_
  refine V_regionX Γ Δ [] [0, 1, 4, 5, 10, 12, 13, 14, 39] (evs ?_)
  all_goals (try with_reducible (repeat' (first | apply And.intro | intro _)))
  all_goals (try (first | with_reducible refine wa_id ?_ | exact True.intro | omega))
  refine V_cond (evs ?_)
  refine ⟨fun hc => ?_, fun hc => ?_⟩
  · refine WA_seq (x := (fcd Tryz.f41 [1, 0, 1, 0, 0])) (y := (fcd Tryz.f41 [1, 0, 1, 0, 1])) ?_
    refine V_regionX Γ Δ [] [0, 1, 4, 5, 10, 12, 13, 14, 39] (evs ?_)
    all_goals (try with_reducible (repeat' (first | apply And.intro | intro _)))
    all_goals (try (first | with_reducible refine wa_id ?_ | exact True.intro | omega))
    refine V_ret (evs ?_)
    first | exact ak_1 hc | exact ak_2 ‹_› hc | exact ak_2o ‹_› hc | exact ak_3 ‹_› hI.2 hc
  · refine WA_skip ?_
    refine WA_seq (x := (fcd Tryz.f41 [1, 1, 0])) (y := (fcd Tryz.f41 [1, 1, 1])) ?_
    refine WA_seq (x := (fcd Tryz.f41 [1, 1, 0, 0])) (y := (fcd Tryz.f41 [1, 1, 0, 1])) ?_
    refine V_regionX Γ Δ [] [0, 1, 4, 5, 10, 12, 13, 14, 39] (evs ?_)
    all_goals (try with_reducible (repeat' (first | apply And.intro | intro _)))
    all_goals (try (first | with_reducible refine wa_id ?_ | exact True.intro | omega))
    refine WA_block (c := (fcd Tryz.f41 [1, 1, 0, 1, 0])) ?_
    refine V_loop (c := (fcd Tryz.f41 [1, 1, 0, 1, 0, 0])) (α := Nat) [4, 5, 13, 14, 39] [] (fun k => [(13, .dat (.i (k : Int)))]) (fun k => []) (fun k => k ≤ a.length ∧ ∀ j, j < k → (a.getD j zR).x = (b.getD j zR).x ∧ (a.getD j zR).w = (b.getD j zR).w) (fun k => a.length - k) 0 [] ?_ (evs ?_) ?_
    · exact ⟨Nat.zero_le _, fun j hj => by omega⟩
    · (try with_reducible (repeat' (first | apply And.intro | intro _)))
      all_goals (first | exact True.intro | omega | (first | rfl))
    · intro k hI
      refine WA_seq (x := (fcd Tryz.f41 [1, 1, 0, 1, 0, 0, 0])) (y := (fcd Tryz.f41 [1, 1, 0, 1, 0, 0, 1])) ?_
      refine V_regionX Γ Δ [] [0, 1, 4, 5, 10, 12, 13, 14, 39] (evs ?_)
      all_goals (try with_reducible (repeat' (first | apply And.intro | intro _)))
      all_goals (try (first | with_reducible refine wa_id ?_ | exact True.intro | omega))
      refine WA_seq (x := (fcd Tryz.f41 [1, 1, 0, 1, 0, 0, 1, 0])) (y := (fcd Tryz.f41 [1, 1, 0, 1, 0, 0, 1, 1])) ?_
      refine V_cond (evs ?_)
      refine ⟨fun hc => ?_, fun hc => ?_⟩
      · refine WA_skip ?_
        refine WA_seq (x := (fcd Tryz.f41 [1, 1, 0, 1, 0, 0, 1, 1, 0])) (y := (fcd Tryz.f41 [1, 1, 0, 1, 0, 0, 1, 1, 1])) ?_
        refine WA_block (c := (fcd Tryz.f41 [1, 1, 0, 1, 0, 0, 1, 1, 0, 0])) ?_
        refine WA_seq (x := (fcd Tryz.f41 [1, 1, 0, 1, 0, 0, 1, 1, 0, 0, 0])) (y := (fcd Tryz.f41 [1, 1, 0, 1, 0, 0, 1, 1, 0, 0, 1])) ?_
        refine V_regionX Γ Δ [] [0, 1, 4, 5, 10, 12, 13, 14, 39] (evs ?_)
        all_goals (try with_reducible (repeat' (first | apply And.intro | intro _)))
        all_goals (try (first | with_reducible refine wa_id ?_ | exact True.intro | omega))
        refine WA_seq (x := (fcd Tryz.f41 [1, 1, 0, 1, 0, 0, 1, 1, 0, 0, 1, 0])) (y := (fcd Tryz.f41 [1, 1, 0, 1, 0, 0, 1, 1, 0, 0, 1, 1])) ?_
        refine V_draw Γ [] [0, 1, 4, 5, 10, 12, 13, 14, 39] mixed (by kernel_rfl) (evs ?_)
        all_goals (try with_reducible (repeat' (first | apply And.intro | intro _)))
        all_goals (try (first | with_reducible refine wa_id ?_ | exact True.intro | omega))
        refine V_cond (evs ?_)
        refine ⟨fun hc => ?_, fun hc => ?_⟩
        · refine WA_seq (x := (fcd Tryz.f41 [1, 1, 0, 1, 0, 0, 1, 1, 0, 0, 1, 1, 0, 0])) (y := (fcd Tryz.f41 [1, 1, 0, 1, 0, 0, 1, 1, 0, 0, 1, 1, 0, 1])) ?_
          refine V_regionX Γ Δ [] [0, 1, 4, 5, 10, 12, 13, 14, 39] (evs ?_)
          all_goals (try with_reducible (repeat' (first | apply And.intro | intro _)))
          all_goals (try (first | with_reducible refine wa_id ?_ | exact True.intro | omega))
          refine V_ret (evs ?_)
          first | exact ak_1 hc | exact ak_2 ‹_› hc | exact ak_2o ‹_› hc | exact ak_3 ‹_› hI.2 hc
        · refine WA_skip ?_
          refine V_regionX Γ Δ [] [0, 1, 4, 5, 10, 12, 13, 14, 39] (evs ?_)
          all_goals (try with_reducible (repeat' (first | apply And.intro | intro _)))
          all_goals (try (first | with_reducible refine wa_id ?_ | exact True.intro | omega))
          refine V_next [] (k + 1) (evs ?_) ?_ ?_
          all_goals (try with_reducible (repeat' (first | apply And.intro | intro _)))
          all_goals (first | exact True.intro | omega | (first | exact w64l ‹(k : Int) < _› ‹a.length ≤ 281474976710656› | (have hq := all_s (p := fun j => (a.getD j zR).x = (b.getD j zR).x ∧ (a.getD j zR).w = (b.getD j zR).w) hI.2 hc _ ‹_›; first | exact hq | exact hq.1 | exact hq.2)))
      · refine V_exit (evs ?_)
        refine WA_seq (x := (fcd Tryz.f41 [1, 1, 1, 0])) (y := (fcd Tryz.f41 [1, 1, 1, 1])) ?_
        refine V_regionX Γ Δ [] [0, 1, 4, 5, 10, 12, 13, 14, 39] (evs ?_)
        all_goals (try with_reducible (repeat' (first | apply And.intro | intro _)))
        all_goals (try (first | with_reducible refine wa_id ?_ | exact True.intro | omega))
        refine V_ret (evs ?_)
        first | exact ak_1 hc | exact ak_2 ‹_› hc | exact ak_2o ‹_› hc | exact ak_3 ‹_› hI.2 hc

end Go.S03

