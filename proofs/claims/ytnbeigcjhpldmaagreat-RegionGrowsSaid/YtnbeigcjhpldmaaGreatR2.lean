import Derived.Test.YtnbeigcjhpldmaaGreatF03
set_option linter.unusedSimpArgs false
set_option linter.unusedVariables false
set_option linter.unusedSimpArgs false
set_option linter.unusedVariables false
namespace Go.S03
open Go.RowKit Go.Proofs Go.Eng Go.Rect
theorem lbox_fn (x y w h : Int) : Eng.Fn Tryz.prog 24 [.i x, .i y, .i w, .i h] (.own 34 4 [[.i x, .i y, .i w, .i h]]) := by
  refine Eng.Fn.by (fn := Tryz.f24) 15 [.tmp 8] Tryz.func24 rfl Tryz.ntmps24 rfl (by simp) fun w0 G0 => ?_
  refine WA_seq (x := (fcd Tryz.f24 [0])) (y := (fcd Tryz.f24 [1])) ?_
  refine V_regionX Γ Δ [] [0, 1, 2, 3, 8] (evs ?_)
  all_goals (try with_reducible (repeat' (first | apply And.intro | intro _)))
  all_goals (try (first | with_reducible refine wa_id ?_ | exact True.intro | omega))
  refine WA_seq (x := (fcd Tryz.f24 [1, 0])) (y := (fcd Tryz.f24 [1, 1])) ?_
  refine V_regionX Γ Δ [] [0, 1, 2, 3, 8] (evs ?_)
  all_goals (try with_reducible (repeat' (first | apply And.intro | intro _)))
  all_goals (try (first | with_reducible refine wa_id ?_ | exact True.intro | omega))
  refine V_ret (evs ?_)
  first | exact True.intro | rfl

theorem lalike_fn (a b : List Rc) : Eng.Fn Tryz.prog 6 [.sl 4 (a.map rcC), .sl 4 (b.map rcC)] (.dat (.b (sameL a b))) := by
  refine Eng.Fn.by (fn := Tryz.f6) 26 [.tmp 4] Tryz.func6 rfl Tryz.ntmps6 rfl (by simp) fun w0 G0 => ?_
  refine WA_seq (x := (fcd Tryz.f6 [0])) (y := (fcd Tryz.f6 [1])) ?_
  refine V_regionX Γ Δ [] [0, 1, 4, 5, 10, 12, 13, 14, 24] (evs ?_)
  all_goals (try with_reducible (repeat' (first | apply And.intro | intro _)))
  all_goals (try (first | with_reducible refine wa_id ?_ | exact True.intro | omega))
  refine WA_seq (x := (fcd Tryz.f6 [1, 0])) (y := (fcd Tryz.f6 [1, 1])) ?_
  refine WA_seq (x := (fcd Tryz.f6 [1, 0, 0])) (y := (fcd Tryz.f6 [1, 0, 1])) ?_
  refine V_regionX Γ Δ [] [0, 1, 4, 5, 10, 12, 13, 14, 24] (evs ?_)
  all_goals (try with_reducible (repeat' (first | apply And.intro | intro _)))
  all_goals (try (first | with_reducible refine wa_id ?_ | exact True.intro | omega))
  refine V_cond (evs ?_)
  refine ⟨fun hc => ?_, fun hc => ?_⟩
  · refine WA_seq (x := (fcd Tryz.f6 [1, 0, 1, 0, 0])) (y := (fcd Tryz.f6 [1, 0, 1, 0, 1])) ?_
    refine V_regionX Γ Δ [] [0, 1, 4, 5, 10, 12, 13, 14, 24] (evs ?_)
    all_goals (try with_reducible (repeat' (first | apply And.intro | intro _)))
    all_goals (try (first | with_reducible refine wa_id ?_ | exact True.intro | omega))
    refine V_ret (evs ?_)
    first | exact sm1 hc | exact sm2 zR (smR hc) | exact sm5 zR ‹_› hI ‹_›
  · refine WA_skip ?_
    refine WA_seq (x := (fcd Tryz.f6 [1, 1, 0])) (y := (fcd Tryz.f6 [1, 1, 1])) ?_
    refine WA_seq (x := (fcd Tryz.f6 [1, 1, 0, 0])) (y := (fcd Tryz.f6 [1, 1, 0, 1])) ?_
    refine V_regionX Γ Δ [] [0, 1, 4, 5, 10, 12, 13, 14, 24] (evs ?_)
    all_goals (try with_reducible (repeat' (first | apply And.intro | intro _)))
    all_goals (try (first | with_reducible refine wa_id ?_ | exact True.intro | omega))
    refine WA_block (c := (fcd Tryz.f6 [1, 1, 0, 1, 0])) ?_
    refine V_loop (c := (fcd Tryz.f6 [1, 1, 0, 1, 0, 0])) (α := Nat) [4, 5, 13, 14, 24] [] (fun k => [(13, .dat (.i (k : Int)))]) (fun k => []) (fun k => k ≤ a.length ∧ ∀ j, j < k → a.getD j zR = b.getD j zR) (fun k => a.length - k) 0 [] ?_ (evs ?_) ?_
    · exact ⟨Nat.zero_le _, fun j hj => by omega⟩
    · (try with_reducible (repeat' (first | apply And.intro | intro _)))
      all_goals (first | exact True.intro | omega | (first | rfl))
    · intro k hI
      refine WA_seq (x := (fcd Tryz.f6 [1, 1, 0, 1, 0, 0, 0])) (y := (fcd Tryz.f6 [1, 1, 0, 1, 0, 0, 1])) ?_
      refine V_regionX Γ Δ [] [0, 1, 4, 5, 10, 12, 13, 14, 24] (evs ?_)
      all_goals (try with_reducible (repeat' (first | apply And.intro | intro _)))
      all_goals (try (first | with_reducible refine wa_id ?_ | exact True.intro | omega))
      refine WA_seq (x := (fcd Tryz.f6 [1, 1, 0, 1, 0, 0, 1, 0])) (y := (fcd Tryz.f6 [1, 1, 0, 1, 0, 0, 1, 1])) ?_
      refine V_cond (evs ?_)
      refine ⟨fun hc => ?_, fun hc => ?_⟩
      · refine WA_skip ?_
        refine WA_seq (x := (fcd Tryz.f6 [1, 1, 0, 1, 0, 0, 1, 1, 0])) (y := (fcd Tryz.f6 [1, 1, 0, 1, 0, 0, 1, 1, 1])) ?_
        refine WA_block (c := (fcd Tryz.f6 [1, 1, 0, 1, 0, 0, 1, 1, 0, 0])) ?_
        refine WA_seq (x := (fcd Tryz.f6 [1, 1, 0, 1, 0, 0, 1, 1, 0, 0, 0])) (y := (fcd Tryz.f6 [1, 1, 0, 1, 0, 0, 1, 1, 0, 0, 1])) ?_
        refine V_regionX Γ Δ [] [0, 1, 4, 5, 10, 12, 13, 14, 24] (evs ?_)
        all_goals (try with_reducible (repeat' (first | apply And.intro | intro _)))
        all_goals (try (first | with_reducible refine wa_id ?_ | exact True.intro | omega))
        refine WA_seq (x := (fcd Tryz.f6 [1, 1, 0, 1, 0, 0, 1, 1, 0, 0, 1, 0])) (y := (fcd Tryz.f6 [1, 1, 0, 1, 0, 0, 1, 1, 0, 0, 1, 1])) ?_
        refine V_draw Γ [] [0, 1, 4, 5, 10, 12, 13, 14, 24] mixed (by kernel_rfl) (evs ?_)
        all_goals (try with_reducible (repeat' (first | apply And.intro | intro _)))
        all_goals (try (first | with_reducible refine wa_id ?_ | exact True.intro | omega))
        refine V_cond (evs ?_)
        refine ⟨fun hc => ?_, fun hc => ?_⟩
        · refine WA_seq (x := (fcd Tryz.f6 [1, 1, 0, 1, 0, 0, 1, 1, 0, 0, 1, 1, 0, 0])) (y := (fcd Tryz.f6 [1, 1, 0, 1, 0, 0, 1, 1, 0, 0, 1, 1, 0, 1])) ?_
          refine V_regionX Γ Δ [] [0, 1, 4, 5, 10, 12, 13, 14, 24] (evs ?_)
          all_goals (try with_reducible (repeat' (first | apply And.intro | intro _)))
          all_goals (try (first | with_reducible refine wa_id ?_ | exact True.intro | omega))
          refine V_ret (evs ?_)
          first | exact sm1 hc | exact sm2 zR (smR hc) | exact sm5 zR ‹_› hI ‹_›
        · refine WA_skip ?_
          refine V_regionX Γ Δ [] [0, 1, 4, 5, 10, 12, 13, 14, 24] (evs ?_)
          all_goals (try with_reducible (repeat' (first | apply And.intro | intro _)))
          all_goals (try (first | with_reducible refine wa_id ?_ | exact True.intro | omega))
          refine V_next [] (k + 1) (evs ?_) ?_ ?_
          all_goals (try with_reducible (repeat' (first | apply And.intro | intro _)))
          all_goals (first | exact True.intro | omega | (first | exact w64l ‹(k : Int) < _› ‹a.length ≤ 281474976710656› | exact sm4 zR hI.2 ‹_› (Rc.ext' hc)))
      · refine V_exit (evs ?_)
        refine WA_seq (x := (fcd Tryz.f6 [1, 1, 1, 0])) (y := (fcd Tryz.f6 [1, 1, 1, 1])) ?_
        refine V_regionX Γ Δ [] [0, 1, 4, 5, 10, 12, 13, 14, 24] (evs ?_)
        all_goals (try with_reducible (repeat' (first | apply And.intro | intro _)))
        all_goals (try (first | with_reducible refine wa_id ?_ | exact True.intro | omega))
        refine V_ret (evs ?_)
        first | exact sm1 hc | exact sm2 zR (smR hc) | exact sm5 zR ‹_› hI ‹_›

end Go.S03

