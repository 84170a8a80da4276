import Derived.Test.YtdillkdhpalgcaaF16
set_option linter.unusedSimpArgs false
set_option linter.unusedVariables false
set_option linter.unusedSimpArgs false
set_option linter.unusedVariables false
namespace Go.S16
open Go.RowKit Go.Proofs Go.Eng Go.Rect
/-- imageeditor/imageeditorlaw16.below -/
theorem below_fn (p q : Px) : Eng.Fn Try.prog 23 [pxD p, pxD q] (.dat (.b (belowB p q))) := by
  refine Eng.Fn.by (fn := Try.f23) 31 [.tmp 4] Try.func23 rfl Try.ntmps23 rfl (by simp) fun w0 G0 => ?_
  refine WA_seq (x := (fcd Try.f23 [0])) (y := (fcd Try.f23 [1])) ?_
  refine V_regionX Γ Δ [] [0, 1, 2, 3, 4] (evs ?_)
  all_goals (try with_reducible (repeat' (first | apply And.intro | intro _)))
  all_goals (try (first | with_reducible refine wa_id ?_ | exact True.intro | omega))
  refine WA_seq (x := (fcd Try.f23 [1, 0])) (y := (fcd Try.f23 [1, 1])) ?_
  refine V_regionX Γ Δ [] [0, 1, 2, 3, 4] (evs ?_)
  all_goals (try with_reducible (repeat' (first | apply And.intro | intro _)))
  all_goals (try (first | with_reducible refine wa_id ?_ | exact True.intro | omega))
  refine V_ret (evs ?_)
  first | rfl | (simp [belowB]; done)

/-- imageeditor/imageeditorlaw16.same -/
theorem sameI_fn (a b : Im) : Eng.Fn Try.prog 21 [imD a, imD b] (.dat (.b (sameI a b))) := by
  refine Eng.Fn.by (fn := Try.f21) 45 [.tmp 4] Try.func21 rfl Try.ntmps21 rfl (by simp) fun w0 G0 => ?_
  refine WA_seq (x := (fcd Try.f21 [0])) (y := (fcd Try.f21 [1])) ?_
  refine V_regionX Γ Δ [] [0, 1, 2, 3, 4, 5, 26, 31, 44] (evs ?_)
  all_goals (try with_reducible (repeat' (first | apply And.intro | intro _)))
  all_goals (try (first | with_reducible refine wa_id ?_ | exact True.intro | omega))
  refine WA_seq (x := (fcd Try.f21 [1, 0])) (y := (fcd Try.f21 [1, 1])) ?_
  refine WA_seq (x := (fcd Try.f21 [1, 0, 0])) (y := (fcd Try.f21 [1, 0, 1])) ?_
  refine V_regionX Γ Δ [] [0, 1, 2, 3, 4, 5, 26, 31, 44] (evs ?_)
  all_goals (try with_reducible (repeat' (first | apply And.intro | intro _)))
  all_goals (try (first | with_reducible refine wa_id ?_ | exact True.intro | omega))
  refine V_cond (evs ?_)
  refine ⟨fun hc => ?_, fun hc => ?_⟩
  · refine WA_seq (x := (fcd Try.f21 [1, 0, 1, 0, 0])) (y := (fcd Try.f21 [1, 0, 1, 0, 1])) ?_
    refine V_regionX Γ Δ [] [0, 1, 2, 3, 4, 5, 26, 31, 44] (evs ?_)
    all_goals (try with_reducible (repeat' (first | apply And.intro | intro _)))
    all_goals (try (first | with_reducible refine wa_id ?_ | exact True.intro | omega))
    refine V_ret (evs ?_)
    first | exact si_1 hc | exact si_2x (px_neB hc) | exact si_3 ‹_› hI.2 hc
  · refine WA_skip ?_
    refine WA_seq (x := (fcd Try.f21 [1, 1, 0])) (y := (fcd Try.f21 [1, 1, 1])) ?_
    refine WA_seq (x := (fcd Try.f21 [1, 1, 0, 0])) (y := (fcd Try.f21 [1, 1, 0, 1])) ?_
    refine V_regionX Γ Δ [] [0, 1, 2, 3, 4, 5, 26, 31, 44] (evs ?_)
    all_goals (try with_reducible (repeat' (first | apply And.intro | intro _)))
    all_goals (try (first | with_reducible refine wa_id ?_ | exact True.intro | omega))
    refine WA_block (c := (fcd Try.f21 [1, 1, 0, 1, 0])) ?_
    refine V_loop (c := (fcd Try.f21 [1, 1, 0, 1, 0, 0])) (α := Nat) [4, 5, 31, 44] [] (fun k => [(5, .dat (.i (k : Int)))]) (fun k => []) (fun k => k ≤ a.p.length ∧ ∀ j, j < k → a.p.getD j zP = b.p.getD j zP) (fun k => a.p.length - k) 0 [] ?_ (evs ?_) ?_
    · exact ⟨Nat.zero_le _, fun j hj => by omega⟩
    · (try with_reducible (repeat' (first | apply And.intro | intro _)))
      all_goals (first | exact True.intro | omega | (first | rfl))
    · intro k hI
      refine WA_seq (x := (fcd Try.f21 [1, 1, 0, 1, 0, 0, 0])) (y := (fcd Try.f21 [1, 1, 0, 1, 0, 0, 1])) ?_
      refine WA_seq (x := (fcd Try.f21 [1, 1, 0, 1, 0, 0, 0, 0])) (y := (fcd Try.f21 [1, 1, 0, 1, 0, 0, 0, 1])) ?_
      refine V_regionX Γ Δ [] [0, 1, 2, 3, 4, 5, 26, 31, 44] (evs ?_)
      all_goals (try with_reducible (repeat' (first | apply And.intro | intro _)))
      all_goals (try (first | with_reducible refine wa_id ?_ | exact True.intro | omega))
      refine V_cond (evs ?_)
      refine ⟨fun hc => ?_, fun hc => ?_⟩
      · refine WA_skip ?_
        refine WA_seq (x := (fcd Try.f21 [1, 1, 0, 1, 0, 0, 1, 0])) (y := (fcd Try.f21 [1, 1, 0, 1, 0, 0, 1, 1])) ?_
        refine WA_block (c := (fcd Try.f21 [1, 1, 0, 1, 0, 0, 1, 0, 0])) ?_
        refine WA_seq (x := (fcd Try.f21 [1, 1, 0, 1, 0, 0, 1, 0, 0, 0])) (y := (fcd Try.f21 [1, 1, 0, 1, 0, 0, 1, 0, 0, 1])) ?_
        refine V_draw Γ [] [0, 1, 2, 3, 4, 5, 26, 31, 44] mixed (by kernel_rfl) (evs ?_)
        all_goals (try with_reducible (repeat' (first | apply And.intro | intro _)))
        all_goals (try (first | with_reducible refine wa_id ?_ | exact True.intro | omega))
        refine V_cond (evs ?_)
        refine ⟨fun hc => ?_, fun hc => ?_⟩
        · refine WA_seq (x := (fcd Try.f21 [1, 1, 0, 1, 0, 0, 1, 0, 0, 1, 0, 0])) (y := (fcd Try.f21 [1, 1, 0, 1, 0, 0, 1, 0, 0, 1, 0, 1])) ?_
          refine V_regionX Γ Δ [] [0, 1, 2, 3, 4, 5, 26, 31, 44] (evs ?_)
          all_goals (try with_reducible (repeat' (first | apply And.intro | intro _)))
          all_goals (try (first | with_reducible refine wa_id ?_ | exact True.intro | omega))
          refine V_ret (evs ?_)
          first | exact si_1 hc | exact si_2x (px_neB hc) | exact si_3 ‹_› hI.2 hc
        · refine WA_skip ?_
          refine V_regionX Γ Δ [] [0, 1, 2, 3, 4, 5, 26, 31, 44] (evs ?_)
          all_goals (try with_reducible (repeat' (first | apply And.intro | intro _)))
          all_goals (try (first | with_reducible refine wa_id ?_ | exact True.intro | omega))
          refine V_next [] (k + 1) (evs ?_) ?_ ?_
          all_goals (try with_reducible (repeat' (first | apply And.intro | intro _)))
          all_goals (first | exact True.intro | omega | (first | exact w64l ‹(k : Int) < _› ‹a.p.length ≤ 281474976710656› | exact si_4x hI.2 (px_eq hc) _ ‹_›))
      · refine V_exit (evs ?_)
        refine WA_seq (x := (fcd Try.f21 [1, 1, 1, 0])) (y := (fcd Try.f21 [1, 1, 1, 1])) ?_
        refine V_regionX Γ Δ [] [0, 1, 2, 3, 4, 5, 26, 31, 44] (evs ?_)
        all_goals (try with_reducible (repeat' (first | apply And.intro | intro _)))
        all_goals (try (first | with_reducible refine wa_id ?_ | exact True.intro | omega))
        refine V_ret (evs ?_)
        first | exact si_1 hc | exact si_2x (px_neB hc) | exact si_3 ‹_› hI.2 hc

end Go.S16

