import Derived.Test.YtfpimhkkknfmcaaW2
set_option linter.unusedSimpArgs false
set_option linter.unusedVariables false
namespace Go.Rect
open Go.RowKit Go.Proofs Go.Eng
/-- imageeditor/imageeditorlaw02.sameRects -/
theorem sameR_fn (a b : List Rc) : Eng.Fn Try.prog 31 [.sl 4 (a.map rcC), .sl 4 (b.map rcC)] (.dat (.b (sameL a b))) := by
  refine Eng.Fn.by (fn := Try.f31) 26 [.tmp 4] Try.func31 rfl Try.ntmps31 rfl (by simp) fun w0 => ?_
  refine WA_seq (x := (fcd Try.f31 [0])) (y := (fcd Try.f31 [1])) ?_
  refine V_regionX Γ Δ [] [0, 1, 4, 5, 10, 12, 13, 14, 24] (evs ?_)
  all_goals (try with_reducible (repeat' (first | apply And.intro | intro _)))
  all_goals (try (first | with_reducible refine wa_id ?_ | exact True.intro | omega))
  refine WA_seq (x := (fcd Try.f31 [1, 0])) (y := (fcd Try.f31 [1, 1])) ?_
  refine WA_seq (x := (fcd Try.f31 [1, 0, 0])) (y := (fcd Try.f31 [1, 0, 1])) ?_
  refine V_regionX Γ Δ [] [0, 1, 4, 5, 10, 12, 13, 14, 24] (evs ?_)
  all_goals (try with_reducible (repeat' (first | apply And.intro | intro _)))
  all_goals (try (first | with_reducible refine wa_id ?_ | exact True.intro | omega))
  refine V_cond (evs ?_)
  refine ⟨fun hc => ?_, fun hc => ?_⟩
  · refine WA_seq (x := (fcd Try.f31 [1, 0, 1, 0, 0])) (y := (fcd Try.f31 [1, 0, 1, 0, 1])) ?_
    refine V_regionX Γ Δ [] [0, 1, 4, 5, 10, 12, 13, 14, 24] (evs ?_)
    all_goals (try with_reducible (repeat' (first | apply And.intro | intro _)))
    all_goals (try (first | with_reducible refine wa_id ?_ | exact True.intro | omega))
    refine V_ret (evs ?_)
    first | exact sm1 hc | exact sm2 zR (smR hc) | exact sm5 zR ‹_› hI hc
  · refine WA_skip ?_
    refine WA_seq (x := (fcd Try.f31 [1, 1, 0])) (y := (fcd Try.f31 [1, 1, 1])) ?_
    refine WA_seq (x := (fcd Try.f31 [1, 1, 0, 0])) (y := (fcd Try.f31 [1, 1, 0, 1])) ?_
    refine V_regionX Γ Δ [] [0, 1, 4, 5, 10, 12, 13, 14, 24] (evs ?_)
    all_goals (try with_reducible (repeat' (first | apply And.intro | intro _)))
    all_goals (try (first | with_reducible refine wa_id ?_ | exact True.intro | omega))
    refine WA_block (c := (fcd Try.f31 [1, 1, 0, 1, 0])) ?_
    refine V_loop (c := (fcd Try.f31 [1, 1, 0, 1, 0, 0])) (α := Nat) [4, 5, 13, 14, 24] [] (fun k => [(13, .dat (.i (k : Int)))]) (fun k => []) (fun k => k ≤ a.length ∧ ∀ j, j < k → a.getD j zR = b.getD j zR) (fun k => a.length - k) 0 [] ?_ (evs ?_) ?_
    · exact ⟨Nat.zero_le _, fun j hj => by omega⟩
    · (try with_reducible (repeat' (first | apply And.intro | intro _)))
      all_goals (first | exact True.intro | omega | (simp))
    · intro k hI
      refine WA_seq (x := (fcd Try.f31 [1, 1, 0, 1, 0, 0, 0])) (y := (fcd Try.f31 [1, 1, 0, 1, 0, 0, 1])) ?_
      refine V_regionX Γ Δ [] [0, 1, 4, 5, 10, 12, 13, 14, 24] (evs ?_)
      all_goals (try with_reducible (repeat' (first | apply And.intro | intro _)))
      all_goals (try (first | with_reducible refine wa_id ?_ | exact True.intro | omega))
      refine WA_seq (x := (fcd Try.f31 [1, 1, 0, 1, 0, 0, 1, 0])) (y := (fcd Try.f31 [1, 1, 0, 1, 0, 0, 1, 1])) ?_
      refine V_cond (evs ?_)
      refine ⟨fun hc => ?_, fun hc => ?_⟩
      · refine WA_skip ?_
        refine WA_seq (x := (fcd Try.f31 [1, 1, 0, 1, 0, 0, 1, 1, 0])) (y := (fcd Try.f31 [1, 1, 0, 1, 0, 0, 1, 1, 1])) ?_
        refine WA_block (c := (fcd Try.f31 [1, 1, 0, 1, 0, 0, 1, 1, 0, 0])) ?_
        refine WA_seq (x := (fcd Try.f31 [1, 1, 0, 1, 0, 0, 1, 1, 0, 0, 0])) (y := (fcd Try.f31 [1, 1, 0, 1, 0, 0, 1, 1, 0, 0, 1])) ?_
        refine V_regionX Γ Δ [] [0, 1, 4, 5, 10, 12, 13, 14, 24] (evs ?_)
        all_goals (try with_reducible (repeat' (first | apply And.intro | intro _)))
        all_goals (try (first | with_reducible refine wa_id ?_ | exact True.intro | omega))
        refine WA_seq (x := (fcd Try.f31 [1, 1, 0, 1, 0, 0, 1, 1, 0, 0, 1, 0])) (y := (fcd Try.f31 [1, 1, 0, 1, 0, 0, 1, 1, 0, 0, 1, 1])) ?_
        refine V_draw Γ [] [0, 1, 4, 5, 10, 12, 13, 14, 24] mixed (by kernel_rfl) (evs ?_)
        all_goals (try with_reducible (repeat' (first | apply And.intro | intro _)))
        all_goals (try (first | with_reducible refine wa_id ?_ | exact True.intro | omega))
        refine V_cond (evs ?_)
        refine ⟨fun hc => ?_, fun hc => ?_⟩
        · refine WA_seq (x := (fcd Try.f31 [1, 1, 0, 1, 0, 0, 1, 1, 0, 0, 1, 1, 0, 0])) (y := (fcd Try.f31 [1, 1, 0, 1, 0, 0, 1, 1, 0, 0, 1, 1, 0, 1])) ?_
          refine V_regionX Γ Δ [] [0, 1, 4, 5, 10, 12, 13, 14, 24] (evs ?_)
          all_goals (try with_reducible (repeat' (first | apply And.intro | intro _)))
          all_goals (try (first | with_reducible refine wa_id ?_ | exact True.intro | omega))
          refine V_ret (evs ?_)
          first | exact sm1 hc | exact sm2 zR (smR hc) | exact sm5 zR ‹_› hI hc
        · refine WA_skip ?_
          refine V_regionX Γ Δ [] [0, 1, 4, 5, 10, 12, 13, 14, 24] (evs ?_)
          all_goals (try with_reducible (repeat' (first | apply And.intro | intro _)))
          all_goals (try (first | with_reducible refine wa_id ?_ | exact True.intro | omega))
          refine V_next [] (k + 1) (evs ?_) ?_ ?_
          all_goals (try with_reducible (repeat' (first | apply And.intro | intro _)))
          all_goals (first | exact True.intro | omega | (first | exact w64l ‹_› ‹_› | exact sm4 zR hI.2 ‹_› (Rc.ext' hc)))
      · refine V_exit (evs ?_)
        refine WA_seq (x := (fcd Try.f31 [1, 1, 1, 0])) (y := (fcd Try.f31 [1, 1, 1, 1])) ?_
        refine V_regionX Γ Δ [] [0, 1, 4, 5, 10, 12, 13, 14, 24] (evs ?_)
        all_goals (try with_reducible (repeat' (first | apply And.intro | intro _)))
        all_goals (try (first | with_reducible refine wa_id ?_ | exact True.intro | omega))
        refine V_ret (evs ?_)
        first | exact sm1 hc | exact sm2 zR (smR hc) | exact sm5 zR ‹_› hI hc

/-- imageeditor/imageeditorlaw02.samePoints -/
theorem sameP_fn (a b : List Pt) : Eng.Fn Try.prog 36 [.sl 2 (a.map ptC), .sl 2 (b.map ptC)] (.dat (.b (sameL a b))) := by
  refine Eng.Fn.by (fn := Try.f36) 26 [.tmp 4] Try.func36 rfl Try.ntmps36 rfl (by simp) fun w0 => ?_
  refine WA_seq (x := (fcd Try.f36 [0])) (y := (fcd Try.f36 [1])) ?_
  refine V_regionX Γ Δ [] [0, 1, 4, 5, 10, 12, 13, 14, 24] (evs ?_)
  all_goals (try with_reducible (repeat' (first | apply And.intro | intro _)))
  all_goals (try (first | with_reducible refine wa_id ?_ | exact True.intro | omega))
  refine WA_seq (x := (fcd Try.f36 [1, 0])) (y := (fcd Try.f36 [1, 1])) ?_
  refine WA_seq (x := (fcd Try.f36 [1, 0, 0])) (y := (fcd Try.f36 [1, 0, 1])) ?_
  refine V_regionX Γ Δ [] [0, 1, 4, 5, 10, 12, 13, 14, 24] (evs ?_)
  all_goals (try with_reducible (repeat' (first | apply And.intro | intro _)))
  all_goals (try (first | with_reducible refine wa_id ?_ | exact True.intro | omega))
  refine V_cond (evs ?_)
  refine ⟨fun hc => ?_, fun hc => ?_⟩
  · refine WA_seq (x := (fcd Try.f36 [1, 0, 1, 0, 0])) (y := (fcd Try.f36 [1, 0, 1, 0, 1])) ?_
    refine V_regionX Γ Δ [] [0, 1, 4, 5, 10, 12, 13, 14, 24] (evs ?_)
    all_goals (try with_reducible (repeat' (first | apply And.intro | intro _)))
    all_goals (try (first | with_reducible refine wa_id ?_ | exact True.intro | omega))
    refine V_ret (evs ?_)
    first | exact sm1 hc | exact sm2 ⟨0, 0⟩ (smP hc) | exact sm5 ⟨0, 0⟩ ‹_› hI hc
  · refine WA_skip ?_
    refine WA_seq (x := (fcd Try.f36 [1, 1, 0])) (y := (fcd Try.f36 [1, 1, 1])) ?_
    refine WA_seq (x := (fcd Try.f36 [1, 1, 0, 0])) (y := (fcd Try.f36 [1, 1, 0, 1])) ?_
    refine V_regionX Γ Δ [] [0, 1, 4, 5, 10, 12, 13, 14, 24] (evs ?_)
    all_goals (try with_reducible (repeat' (first | apply And.intro | intro _)))
    all_goals (try (first | with_reducible refine wa_id ?_ | exact True.intro | omega))
    refine WA_block (c := (fcd Try.f36 [1, 1, 0, 1, 0])) ?_
    refine V_loop (c := (fcd Try.f36 [1, 1, 0, 1, 0, 0])) (α := Nat) [4, 5, 13, 14, 24] [] (fun k => [(13, .dat (.i (k : Int)))]) (fun k => []) (fun k => k ≤ a.length ∧ ∀ j, j < k → a.getD j ⟨0, 0⟩ = b.getD j ⟨0, 0⟩) (fun k => a.length - k) 0 [] ?_ (evs ?_) ?_
    · exact ⟨Nat.zero_le _, fun j hj => by omega⟩
    · (try with_reducible (repeat' (first | apply And.intro | intro _)))
      all_goals (first | exact True.intro | omega | (simp))
    · intro k hI
      refine WA_seq (x := (fcd Try.f36 [1, 1, 0, 1, 0, 0, 0])) (y := (fcd Try.f36 [1, 1, 0, 1, 0, 0, 1])) ?_
      refine V_regionX Γ Δ [] [0, 1, 4, 5, 10, 12, 13, 14, 24] (evs ?_)
      all_goals (try with_reducible (repeat' (first | apply And.intro | intro _)))
      all_goals (try (first | with_reducible refine wa_id ?_ | exact True.intro | omega))
      refine WA_seq (x := (fcd Try.f36 [1, 1, 0, 1, 0, 0, 1, 0])) (y := (fcd Try.f36 [1, 1, 0, 1, 0, 0, 1, 1])) ?_
      refine V_cond (evs ?_)
      refine ⟨fun hc => ?_, fun hc => ?_⟩
      · refine WA_skip ?_
        refine WA_seq (x := (fcd Try.f36 [1, 1, 0, 1, 0, 0, 1, 1, 0])) (y := (fcd Try.f36 [1, 1, 0, 1, 0, 0, 1, 1, 1])) ?_
        refine WA_block (c := (fcd Try.f36 [1, 1, 0, 1, 0, 0, 1, 1, 0, 0])) ?_
        refine WA_seq (x := (fcd Try.f36 [1, 1, 0, 1, 0, 0, 1, 1, 0, 0, 0])) (y := (fcd Try.f36 [1, 1, 0, 1, 0, 0, 1, 1, 0, 0, 1])) ?_
        refine V_regionX Γ Δ [] [0, 1, 4, 5, 10, 12, 13, 14, 24] (evs ?_)
        all_goals (try with_reducible (repeat' (first | apply And.intro | intro _)))
        all_goals (try (first | with_reducible refine wa_id ?_ | exact True.intro | omega))
        refine WA_seq (x := (fcd Try.f36 [1, 1, 0, 1, 0, 0, 1, 1, 0, 0, 1, 0])) (y := (fcd Try.f36 [1, 1, 0, 1, 0, 0, 1, 1, 0, 0, 1, 1])) ?_
        refine V_draw Γ [] [0, 1, 4, 5, 10, 12, 13, 14, 24] mixed (by kernel_rfl) (evs ?_)
        all_goals (try with_reducible (repeat' (first | apply And.intro | intro _)))
        all_goals (try (first | with_reducible refine wa_id ?_ | exact True.intro | omega))
        refine V_cond (evs ?_)
        refine ⟨fun hc => ?_, fun hc => ?_⟩
        · refine WA_seq (x := (fcd Try.f36 [1, 1, 0, 1, 0, 0, 1, 1, 0, 0, 1, 1, 0, 0])) (y := (fcd Try.f36 [1, 1, 0, 1, 0, 0, 1, 1, 0, 0, 1, 1, 0, 1])) ?_
          refine V_regionX Γ Δ [] [0, 1, 4, 5, 10, 12, 13, 14, 24] (evs ?_)
          all_goals (try with_reducible (repeat' (first | apply And.intro | intro _)))
          all_goals (try (first | with_reducible refine wa_id ?_ | exact True.intro | omega))
          refine V_ret (evs ?_)
          first | exact sm1 hc | exact sm2 ⟨0, 0⟩ (smP hc) | exact sm5 ⟨0, 0⟩ ‹_› hI hc
        · refine WA_skip ?_
          refine V_regionX Γ Δ [] [0, 1, 4, 5, 10, 12, 13, 14, 24] (evs ?_)
          all_goals (try with_reducible (repeat' (first | apply And.intro | intro _)))
          all_goals (try (first | with_reducible refine wa_id ?_ | exact True.intro | omega))
          refine V_next [] (k + 1) (evs ?_) ?_ ?_
          all_goals (try with_reducible (repeat' (first | apply And.intro | intro _)))
          all_goals (first | exact True.intro | omega | (first | exact w64l ‹_› ‹_› | exact sm4 ⟨0, 0⟩ hI.2 ‹_› (Pt.ext' hc)))
      · refine V_exit (evs ?_)
        refine WA_seq (x := (fcd Try.f36 [1, 1, 1, 0])) (y := (fcd Try.f36 [1, 1, 1, 1])) ?_
        refine V_regionX Γ Δ [] [0, 1, 4, 5, 10, 12, 13, 14, 24] (evs ?_)
        all_goals (try with_reducible (repeat' (first | apply And.intro | intro _)))
        all_goals (try (first | with_reducible refine wa_id ?_ | exact True.intro | omega))
        refine V_ret (evs ?_)
        first | exact sm1 hc | exact sm2 ⟨0, 0⟩ (smP hc) | exact sm5 ⟨0, 0⟩ ‹_› hI hc

end Go.Rect

