import Derived.Test.YtnbeigcjhpldmaaR8
set_option linter.unusedSimpArgs false
set_option linter.unusedVariables false
set_option linter.unusedSimpArgs false
set_option linter.unusedVariables false
namespace Go.S03
open Go.RowKit Go.Proofs Go.Eng Go.Rect
/-- imageeditor/imageeditorref03.Area -/
theorem rarea_fn (a : List Rc) : Eng.Fn Try.prog 25 [.sl 4 (a.map rcC)] (.dat (.i (areaL (canoF orB a [])))) := by
  refine Eng.Fn.by (fn := Try.f25) 28 [.tmp 2] Try.func25 rfl Try.ntmps25 rfl (by simp) fun w0 G0 => ?_
  refine WA_seq (x := (fcd Try.f25 [0])) (y := (fcd Try.f25 [1])) ?_
  refine V_regionX Γ Δ [] [0, 2, 3, 4, 5, 9, 10, 11] (evs ?_)
  all_goals (try with_reducible (repeat' (first | apply And.intro | intro _)))
  all_goals (try (first | with_reducible refine wa_id ?_ | exact True.intro | omega | exact rof_fn _))
  refine WA_seq (x := (fcd Try.f25 [1, 0])) (y := (fcd Try.f25 [1, 1])) ?_
  refine V_regionX Γ Δ [] [0, 2, 3, 4, 5, 9, 10, 11] (evs ?_)
  all_goals (try with_reducible (repeat' (first | apply And.intro | intro _)))
  all_goals (try (first | with_reducible refine wa_id ?_ | exact True.intro | omega | exact rof_fn _))
  refine WA_seq (x := (fcd Try.f25 [1, 1, 0])) (y := (fcd Try.f25 [1, 1, 1])) ?_
  refine V_regionX Γ Δ [] [0, 2, 3, 4, 5, 9, 10, 11] (evs ?_)
  all_goals (try with_reducible (repeat' (first | apply And.intro | intro _)))
  all_goals (try (first | with_reducible refine wa_id ?_ | exact True.intro | exact rof_fn _ | omega | exact rof_fn _))
  refine WA_seq (x := (fcd Try.f25 [1, 1, 1, 0])) (y := (fcd Try.f25 [1, 1, 1, 1])) ?_
  refine WA_seq (x := (fcd Try.f25 [1, 1, 1, 0, 0])) (y := (fcd Try.f25 [1, 1, 1, 0, 1])) ?_
  refine V_regionX Γ Δ [] [0, 2, 3, 4, 5, 9, 10, 11] (evs ?_)
  all_goals (try with_reducible (repeat' (first | apply And.intro | intro _)))
  all_goals (try (first | with_reducible refine wa_id ?_ | exact True.intro | omega | exact rof_fn _))
  refine WA_block (c := (fcd Try.f25 [1, 1, 1, 0, 1, 0])) ?_
  refine V_loop (c := (fcd Try.f25 [1, 1, 1, 0, 1, 0, 0])) (α := Nat) [3, 5, 10, 11] [] (fun k => [(10, .dat (.i (k : Int))), (3, .dat (.i (arK (canoF orB a []) k)))]) (fun k => []) (fun k => k ≤ (canoF orB a []).length) (fun k => (canoF orB a []).length - k) 0 [] ?_ (evs ?_) ?_
  · exact Nat.zero_le _
  · (try with_reducible (repeat' (first | apply And.intro | intro _)))
    all_goals (first | exact True.intro | omega | (first | rfl))
  · intro k hI
    refine WA_seq (x := (fcd Try.f25 [1, 1, 1, 0, 1, 0, 0, 0])) (y := (fcd Try.f25 [1, 1, 1, 0, 1, 0, 0, 1])) ?_
    refine V_regionX Γ Δ [] [0, 2, 3, 4, 5, 9, 10, 11] (evs ?_)
    all_goals (try with_reducible (repeat' (first | apply And.intro | intro _)))
    all_goals (try (first | with_reducible refine wa_id ?_ | exact True.intro | omega | exact rof_fn _))
    refine WA_seq (x := (fcd Try.f25 [1, 1, 1, 0, 1, 0, 0, 1, 0])) (y := (fcd Try.f25 [1, 1, 1, 0, 1, 0, 0, 1, 1])) ?_
    refine V_cond (evs ?_)
    refine ⟨fun hc => ?_, fun hc => ?_⟩
    · refine WA_skip ?_
      refine WA_seq (x := (fcd Try.f25 [1, 1, 1, 0, 1, 0, 0, 1, 1, 0])) (y := (fcd Try.f25 [1, 1, 1, 0, 1, 0, 0, 1, 1, 1])) ?_
      refine WA_block (c := (fcd Try.f25 [1, 1, 1, 0, 1, 0, 0, 1, 1, 0, 0])) ?_
      refine WA_seq (x := (fcd Try.f25 [1, 1, 1, 0, 1, 0, 0, 1, 1, 0, 0, 0])) (y := (fcd Try.f25 [1, 1, 1, 0, 1, 0, 0, 1, 1, 0, 0, 1])) ?_
      refine V_regionX Γ Δ [] [0, 2, 3, 4, 5, 9, 10, 11] (evs ?_)
      all_goals (try with_reducible (repeat' (first | apply And.intro | intro _)))
      all_goals (try (first | with_reducible refine wa_id ?_ | exact True.intro | omega | exact rof_fn _))
      refine V_draw Γ [] [0, 2, 3, 4, 5, 9, 10, 11] mixed (by kernel_rfl) (evs ?_)
      have hp := cwh_mul a k
      simp only [hp]
      all_goals (try with_reducible (repeat' (first | apply And.intro | intro _)))
      all_goals (try (first | with_reducible refine wa_id ?_ | exact True.intro | omega | exact rof_fn _))
      refine V_regionX Γ Δ [] [0, 2, 3, 4, 5, 9, 10, 11] (evs ?_)
      all_goals (try with_reducible (repeat' (first | apply And.intro | intro _)))
      all_goals (try (first | with_reducible refine wa_id ?_ | exact True.intro | omega | exact rof_fn _))
      refine V_next [] (k + 1) (evs ?_) ?_ ?_
      all_goals (try with_reducible (repeat' (first | apply And.intro | intro _)))
      all_goals (first | exact True.intro | omega | (first | rfl | exact w64n ‹(k : Int) < _› ‹_› | (rw [arK_s ‹_›]; done)))
    · refine V_exit (evs ?_)
      refine WA_seq (x := (fcd Try.f25 [1, 1, 1, 1, 0])) (y := (fcd Try.f25 [1, 1, 1, 1, 1])) ?_
      refine V_regionX Γ Δ [] [0, 2, 3, 4, 5, 9, 10, 11] (evs ?_)
      all_goals (try with_reducible (repeat' (first | apply And.intro | intro _)))
      all_goals (try (first | with_reducible refine wa_id ?_ | exact True.intro | omega | exact rof_fn _))
      refine V_ret (evs ?_)
      first | exact True.intro | rfl | (rw [areaL, show k = (canoF orB a []).length from by omega]; done)

end Go.S03

