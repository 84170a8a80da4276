import Derived.Test.YtnbeigcjhpldmaaF03
set_option linter.unusedSimpArgs false
set_option linter.unusedVariables false
set_option linter.unusedSimpArgs false
set_option linter.unusedVariables false
namespace Go.S03
open Go.RowKit Go.Proofs Go.Eng Go.Rect
/-- imageeditor/imageeditorlaw03.box -/
theorem lbox_fn (x y w h : Int) : Eng.Fn Try.prog 39 [.i x, .i y, .i w, .i h] (.own 33 4 [[.i x, .i y, .i w, .i h]]) := by
  refine Eng.Fn.by (fn := Try.f39) 15 [.tmp 8] Try.func39 rfl Try.ntmps39 rfl (by simp) fun w0 G0 => ?_
  refine WA_seq (x := (fcd Try.f39 [0])) (y := (fcd Try.f39 [1])) ?_
  refine V_regionX Γ Δ [] [0, 1, 2, 3, 8] (evs ?_)
  all_goals (try with_reducible (repeat' (first | apply And.intro | intro _)))
  all_goals (try (first | with_reducible refine wa_id ?_ | exact True.intro | omega))
  refine WA_seq (x := (fcd Try.f39 [1, 0])) (y := (fcd Try.f39 [1, 1])) ?_
  refine V_regionX Γ Δ [] [0, 1, 2, 3, 8] (evs ?_)
  all_goals (try with_reducible (repeat' (first | apply And.intro | intro _)))
  all_goals (try (first | with_reducible refine wa_id ?_ | exact True.intro | omega))
  refine V_ret (evs ?_)
  first | exact True.intro | rfl

/-- imageeditor/imageeditorlaw03.alike -/
theorem lalike_fn (a b : List Rc) : Eng.Fn Try.prog 11 [.sl 4 (a.map rcC), .sl 4 (b.map rcC)] (.dat (.b (sameL a b))) := by
  refine Eng.Fn.by (fn := Try.f11) 26 [.tmp 4] Try.func11 rfl Try.ntmps11 rfl (by simp) fun w0 G0 => ?_
  refine WA_seq (x := (fcd Try.f11 [0])) (y := (fcd Try.f11 [1])) ?_
  refine V_regionX Γ Δ [] [0, 1, 4, 5, 10, 12, 13, 14, 24] (evs ?_)
  all_goals (try with_reducible (repeat' (first | apply And.intro | intro _)))
  all_goals (try (first | with_reducible refine wa_id ?_ | exact True.intro | omega))
  refine WA_seq (x := (fcd Try.f11 [1, 0])) (y := (fcd Try.f11 [1, 1])) ?_
  refine WA_seq (x := (fcd Try.f11 [1, 0, 0])) (y := (fcd Try.f11 [1, 0, 1])) ?_
  refine V_regionX Γ Δ [] [0, 1, 4, 5, 10, 12, 13, 14, 24] (evs ?_)
  all_goals (try with_reducible (repeat' (first | apply And.intro | intro _)))
  all_goals (try (first | with_reducible refine wa_id ?_ | exact True.intro | omega))
  refine V_cond (evs ?_)
  refine ⟨fun hc => ?_, fun hc => ?_⟩
  · refine WA_seq (x := (fcd Try.f11 [1, 0, 1, 0, 0])) (y := (fcd Try.f11 [1, 0, 1, 0, 1])) ?_
    refine V_regionX Γ Δ [] [0, 1, 4, 5, 10, 12, 13, 14, 24] (evs ?_)
    all_goals (try with_reducible (repeat' (first | apply And.intro | intro _)))
    all_goals (try (first | with_reducible refine wa_id ?_ | exact True.intro | omega))
    refine V_ret (evs ?_)
    first | exact sm1 hc | exact sm2 zR (smR hc) | exact sm5 zR ‹_› hI ‹_›
  · refine WA_skip ?_
    refine WA_seq (x := (fcd Try.f11 [1, 1, 0])) (y := (fcd Try.f11 [1, 1, 1])) ?_
    refine WA_seq (x := (fcd Try.f11 [1, 1, 0, 0])) (y := (fcd Try.f11 [1, 1, 0, 1])) ?_
    refine V_regionX Γ Δ [] [0, 1, 4, 5, 10, 12, 13, 14, 24] (evs ?_)
    all_goals (try with_reducible (repeat' (first | apply And.intro | intro _)))
    all_goals (try (first | with_reducible refine wa_id ?_ | exact True.intro | omega))
    refine WA_block (c := (fcd Try.f11 [1, 1, 0, 1, 0])) ?_
    refine V_loop (c := (fcd Try.f11 [1, 1, 0, 1, 0, 0])) (α := Nat) [4, 5, 13, 14, 24] [] (fun k => [(13, .dat (.i (k : Int)))]) (fun k => []) (fun k => k ≤ a.length ∧ ∀ j, j < k → a.getD j zR = b.getD j zR) (fun k => a.length - k) 0 [] ?_ (evs ?_) ?_
    · exact ⟨Nat.zero_le _, fun j hj => by omega⟩
    · (try with_reducible (repeat' (first | apply And.intro | intro _)))
      all_goals (first | exact True.intro | omega | (first | rfl))
    · intro k hI
      refine WA_seq (x := (fcd Try.f11 [1, 1, 0, 1, 0, 0, 0])) (y := (fcd Try.f11 [1, 1, 0, 1, 0, 0, 1])) ?_
      refine V_regionX Γ Δ [] [0, 1, 4, 5, 10, 12, 13, 14, 24] (evs ?_)
      all_goals (try with_reducible (repeat' (first | apply And.intro | intro _)))
      all_goals (try (first | with_reducible refine wa_id ?_ | exact True.intro | omega))
      refine WA_seq (x := (fcd Try.f11 [1, 1, 0, 1, 0, 0, 1, 0])) (y := (fcd Try.f11 [1, 1, 0, 1, 0, 0, 1, 1])) ?_
      refine V_cond (evs ?_)
      refine ⟨fun hc => ?_, fun hc => ?_⟩
      · refine WA_skip ?_
        refine WA_seq (x := (fcd Try.f11 [1, 1, 0, 1, 0, 0, 1, 1, 0])) (y := (fcd Try.f11 [1, 1, 0, 1, 0, 0, 1, 1, 1])) ?_
        refine WA_block (c := (fcd Try.f11 [1, 1, 0, 1, 0, 0, 1, 1, 0, 0])) ?_
        refine WA_seq (x := (fcd Try.f11 [1, 1, 0, 1, 0, 0, 1, 1, 0, 0, 0])) (y := (fcd Try.f11 [1, 1, 0, 1, 0, 0, 1, 1, 0, 0, 1])) ?_
        refine V_regionX Γ Δ [] [0, 1, 4, 5, 10, 12, 13, 14, 24] (evs ?_)
        all_goals (try with_reducible (repeat' (first | apply And.intro | intro _)))
        all_goals (try (first | with_reducible refine wa_id ?_ | exact True.intro | omega))
        refine WA_seq (x := (fcd Try.f11 [1, 1, 0, 1, 0, 0, 1, 1, 0, 0, 1, 0])) (y := (fcd Try.f11 [1, 1, 0, 1, 0, 0, 1, 1, 0, 0, 1, 1])) ?_
        refine V_draw Γ [] [0, 1, 4, 5, 10, 12, 13, 14, 24] mixed (by kernel_rfl) (evs ?_)
        all_goals (try with_reducible (repeat' (first | apply And.intro | intro _)))
        all_goals (try (first | with_reducible refine wa_id ?_ | exact True.intro | omega))
        refine V_cond (evs ?_)
        refine ⟨fun hc => ?_, fun hc => ?_⟩
        · refine WA_seq (x := (fcd Try.f11 [1, 1, 0, 1, 0, 0, 1, 1, 0, 0, 1, 1, 0, 0])) (y := (fcd Try.f11 [1, 1, 0, 1, 0, 0, 1, 1, 0, 0, 1, 1, 0, 1])) ?_
          refine V_regionX Γ Δ [] [0, 1, 4, 5, 10, 12, 13, 14, 24] (evs ?_)
          all_goals (try with_reducible (repeat' (first | apply And.intro | intro _)))
          all_goals (try (first | with_reducible refine wa_id ?_ | exact True.intro | omega))
          refine V_ret (evs ?_)
          first | exact sm1 hc | exact sm2 zR (smR hc) | exact sm5 zR ‹_› hI ‹_›
        · refine WA_skip ?_
          refine V_regionX Γ Δ [] [0, 1, 4, 5, 10, 12, 13, 14, 24] (evs ?_)
          all_goals (try with_reducible (repeat' (first | apply And.intro | intro _)))
          all_goals (try (first | with_reducible refine wa_id ?_ | exact True.intro | omega))
          refine V_next [] (k + 1) (evs ?_) ?_ ?_
          all_goals (try with_reducible (repeat' (first | apply And.intro | intro _)))
          all_goals (first | exact True.intro | omega | (first | exact w64l ‹(k : Int) < _› ‹a.length ≤ 281474976710656› | exact sm4 zR hI.2 ‹_› (Rc.ext' hc)))
      · refine V_exit (evs ?_)
        refine WA_seq (x := (fcd Try.f11 [1, 1, 1, 0])) (y := (fcd Try.f11 [1, 1, 1, 1])) ?_
        refine V_regionX Γ Δ [] [0, 1, 4, 5, 10, 12, 13, 14, 24] (evs ?_)
        all_goals (try with_reducible (repeat' (first | apply And.intro | intro _)))
        all_goals (try (first | with_reducible refine wa_id ?_ | exact True.intro | omega))
        refine V_ret (evs ?_)
        first | exact sm1 hc | exact sm2 zR (smR hc) | exact sm5 zR ‹_› hI ‹_›

end Go.S03

