import Derived.Test.YtgkflbibpkkegaaGreatDoorL0
set_option linter.unusedSimpArgs false
set_option linter.unusedVariables false
set_option linter.unusedSimpArgs false
set_option linter.unusedVariables false
namespace Go.S35
open Go.RowKit Go.Proofs Go.Eng Go.Rect
set_option maxHeartbeats 8000000 in
set_option maxRecDepth 100000 in
theorem l_steps (m : Im) (a b : Int) : Eng.Fn Tryz.prog 5 [imD m, .i a, .i b] (.dat (.b true)) := by
  refine Eng.Fn.by (fn := Tryz.f5) 117 [.tmp 6] Tryz.func5 rfl Tryz.ntmps5 rfl (by simp) fun w0 G0 => ?_
  refine WA_seq (x := (fcd Tryz.f5 [0])) (y := (fcd Tryz.f5 [1])) ?_
  refine V_regionX Γ Δ [] [0, 1, 2, 3, 6, 7, 8, 9, 10, 11, 12, 13, 14, 15, 16, 37] (evs ?_)
  all_goals (try with_reducible (repeat' (first | apply And.intro | intro _)))
  all_goals (try (first | with_reducible refine wa_id ?_ | exact True.intro | omega | exact sameI_fn _ _))
  refine WA_seq (x := (fcd Tryz.f5 [1, 0])) (y := (fcd Tryz.f5 [1, 1])) ?_
  refine WA_seq (x := (fcd Tryz.f5 [1, 0, 0])) (y := (fcd Tryz.f5 [1, 0, 1])) ?_
  refine V_regionX Γ Δ [] [0, 1, 2, 3, 6, 7, 8, 9, 10, 11, 12, 13, 14, 15, 16, 37] (evs ?_)
  (try simp (maxSteps := 10000000) (disch := omega) only [w64])
  all_goals (try with_reducible (repeat' (first | apply And.intro | intro _)))
  all_goals (try (first | with_reducible refine wa_id ?_ | exact True.intro | exact icheck_fn ⟨_, _, _⟩ | omega | exact sameI_fn _ _))
  refine V_cond (evs ?_)
  refine ⟨fun hc => ?_, fun hc => ?_⟩
  · refine WA_seq (x := (fcd Tryz.f5 [1, 0, 1, 0, 0])) (y := (fcd Tryz.f5 [1, 0, 1, 0, 1])) ?_
    refine V_regionX Γ Δ [] [0, 1, 2, 3, 6, 7, 8, 9, 10, 11, 12, 13, 14, 15, 16, 37] (evs ?_)
    all_goals (try with_reducible (repeat' (first | apply And.intro | intro _)))
    all_goals (try (first | with_reducible refine wa_id ?_ | exact True.intro | exact awake_fn | omega | exact sameI_fn _ _))
    refine V_ret (evs ?_)
    first | rfl | (simp; done) | (have s := hS.2.2.2; exact ⟨⟨⟨⟨⟨⟨⟨hS.1, hS.2.1⟩, hS.2.2.1⟩, decide_eq_true s.1⟩, s.2.1⟩, s.2.2.1⟩, s.2.2.2.1⟩, s.2.2.2.2⟩)
  · refine WA_skip ?_
    refine WA_seq (x := (fcd Tryz.f5 [1, 1, 0])) (y := (fcd Tryz.f5 [1, 1, 1])) ?_
    refine V_regionX Γ Δ [] [0, 1, 2, 3, 6, 7, 8, 9, 10, 11, 12, 13, 14, 15, 16, 37] (evs ?_)
    have hS := steps_law (stp_h hc).1 (stp_h hc).2.1 (stp_h hc).2.2
    have hab := (stp_h hc).2
    all_goals (try with_reducible (repeat' (first | apply And.intro | intro _)))
    all_goals (try (first | with_reducible refine wa_id ?_ | exact True.intro | exact preduce_fn ⟨_, _, _⟩ _ | omega | exact sameI_fn _ _))
    refine WA_seq (x := (fcd Tryz.f5 [1, 1, 1, 0])) (y := (fcd Tryz.f5 [1, 1, 1, 1])) ?_
    refine V_regionX Γ Δ [] [0, 1, 2, 3, 6, 7, 8, 9, 10, 11, 12, 13, 14, 15, 16, 37] (evs ?_)
    all_goals (try with_reducible (repeat' (first | apply And.intro | intro _)))
    all_goals (try (first | with_reducible refine wa_id ?_ | exact True.intro | exact preduce_fn ⟨_, _, _⟩ _ | omega | exact sameI_fn _ _))
    refine WA_seq (x := (fcd Tryz.f5 [1, 1, 1, 1, 0])) (y := (fcd Tryz.f5 [1, 1, 1, 1, 1])) ?_
    refine V_regionX Γ Δ [] [0, 1, 2, 3, 6, 7, 8, 9, 10, 11, 12, 13, 14, 15, 16, 37] (evs ?_)
    (try simp (maxSteps := 10000000) (disch := omega) only [w64])
    all_goals (try with_reducible (repeat' (first | apply And.intro | intro _)))
    all_goals (try (first | with_reducible refine wa_id ?_ | exact True.intro | exact preduce_fn ⟨_, _, _⟩ _ | omega | exact sameI_fn _ _))
    refine WA_seq (x := (fcd Tryz.f5 [1, 1, 1, 1, 1, 0])) (y := (fcd Tryz.f5 [1, 1, 1, 1, 1, 1])) ?_
    refine V_regionX Γ Δ [] [0, 1, 2, 3, 6, 7, 8, 9, 10, 11, 12, 13, 14, 15, 16, 37] (evs ?_)
    all_goals (try with_reducible (repeat' (first | apply And.intro | intro _)))
    all_goals (try (first | with_reducible refine wa_id ?_ | exact True.intro | exact psize_fn _ _ _ | omega | exact sameI_fn _ _))
    refine WA_seq (x := (fcd Tryz.f5 [1, 1, 1, 1, 1, 1, 0])) (y := (fcd Tryz.f5 [1, 1, 1, 1, 1, 1, 1])) ?_
    refine V_regionX Γ Δ [] [0, 1, 2, 3, 6, 7, 8, 9, 10, 11, 12, 13, 14, 15, 16, 37] (evs ?_)
    all_goals (try with_reducible (repeat' (first | apply And.intro | intro _)))
    all_goals (try (first | with_reducible refine wa_id ?_ | exact True.intro | exact psize_fn _ _ _ | omega | exact sameI_fn _ _))
    refine WA_seq (x := (fcd Tryz.f5 [1, 1, 1, 1, 1, 1, 1, 0])) (y := (fcd Tryz.f5 [1, 1, 1, 1, 1, 1, 1, 1])) ?_
    refine V_regionX Γ Δ [] [0, 1, 2, 3, 6, 7, 8, 9, 10, 11, 12, 13, 14, 15, 16, 37] (evs ?_)
    all_goals (try with_reducible (repeat' (first | apply And.intro | intro _)))
    all_goals (try (first | with_reducible refine wa_id ?_ | exact True.intro | exact sameI_fn ⟨_, _, _⟩ ⟨_, _, _⟩ | exact awake_fn | omega | exact sameI_fn _ _))
    refine V_ret (evs ?_)
    first | rfl | (simp; done) | (have s := hS.2.2.2; exact ⟨⟨⟨⟨⟨⟨⟨hS.1, hS.2.1⟩, hS.2.2.1⟩, decide_eq_true s.1⟩, s.2.1⟩, s.2.2.1⟩, s.2.2.2.1⟩, s.2.2.2.2⟩)

end Go.S35

