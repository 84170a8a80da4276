import Derived.Test.YtgkflbibpkkegaaGreatDoorA3
set_option linter.unusedSimpArgs false
set_option linter.unusedVariables false
set_option linter.unusedSimpArgs false
set_option linter.unusedVariables false
namespace Go.S35
open Go.RowKit Go.Proofs Go.Eng Go.Rect
theorem pickp_fn (m : Im) (x y : Int) (hm : ichkE m = 0) : Eng.Fn Tryz.prog 54 [imD m, .i x, .i y] (.dat (pxD (pickP m x y))) := by
  refine Eng.Fn.by (fn := Tryz.f54) 36 [.cell 6 44] Tryz.func54 rfl Tryz.ntmps54 rfl (by simp) fun w0 G0 => ?_
  refine WA_seq (x := (fcd Tryz.f54 [0])) (y := (fcd Tryz.f54 [1])) ?_
  refine V_regionX Γ Δ [] [0, 1, 2, 3, 6, 24] (evs ?_)
  all_goals (try with_reducible (repeat' (first | apply And.intro | intro _)))
  all_goals (try (first | with_reducible refine wa_id ?_ | exact True.intro | omega))
  refine WA_seq (x := (fcd Tryz.f54 [1, 0])) (y := (fcd Tryz.f54 [1, 1])) ?_
  refine WA_seq (x := (fcd Tryz.f54 [1, 0, 0])) (y := (fcd Tryz.f54 [1, 0, 1])) ?_
  refine V_regionX Γ Δ [] [0, 1, 2, 3, 6, 24] (evs ?_)
  all_goals (try with_reducible (repeat' (first | apply And.intro | intro _)))
  all_goals (try (first | with_reducible refine wa_id ?_ | exact True.intro | omega))
  refine V_cond (evs ?_)
  refine ⟨fun hc => ?_, fun hc => ?_⟩
  · refine WA_seq (x := (fcd Tryz.f54 [1, 0, 1, 0, 0])) (y := (fcd Tryz.f54 [1, 0, 1, 0, 1])) ?_
    refine V_regionX Γ Δ [] [0, 1, 2, 3, 6, 24] (evs ?_)
    all_goals (try with_reducible (repeat' (first | apply And.intro | intro _)))
    all_goals (try (first | with_reducible refine wa_id ?_ | exact True.intro | omega))
    refine V_ret (evs ?_)
    first | exact pe (p := zP) (pkp0 hc) | exact pe (pkp1 hc)
  · refine WA_skip ?_
    refine WA_seq (x := (fcd Tryz.f54 [1, 1, 0])) (y := (fcd Tryz.f54 [1, 1, 1])) ?_
    refine V_regionX Γ Δ [] [0, 1, 2, 3, 6, 24] (evs ?_)
    have ha := pkp_ix hm (pkp_h hc)
    (try simp (maxSteps := 10000000) (disch := omega) only [w64])
    all_goals (try with_reducible (repeat' (first | apply And.intro | intro _)))
    all_goals (try (first | with_reducible refine wa_id ?_ | exact True.intro | omega))
    refine V_ret (evs ?_)
    first | exact pe (p := zP) (pkp0 hc) | exact pe (pkp1 hc)

theorem ratp_fn (m : Im) (x y : Int) : Eng.Fn Tryz.prog 37 [imD m, .i x, .i y] (.dat (pxD (atP m x y))) := by
  refine Eng.Fn.by (fn := Tryz.f37) 15 [.cell 6 44] Tryz.func37 rfl Tryz.ntmps37 rfl (by simp) fun w0 G0 => ?_
  refine WA_seq (x := (fcd Tryz.f37 [0])) (y := (fcd Tryz.f37 [1])) ?_
  refine V_regionX Γ Δ [] [0, 1, 2, 3, 6, 9] (evs ?_)
  all_goals (try with_reducible (repeat' (first | apply And.intro | intro _)))
  all_goals (try (first | with_reducible refine wa_id ?_ | exact True.intro | omega))
  refine WA_seq (x := (fcd Tryz.f37 [1, 0])) (y := (fcd Tryz.f37 [1, 1])) ?_
  refine WA_seq (x := (fcd Tryz.f37 [1, 0, 0])) (y := (fcd Tryz.f37 [1, 0, 1])) ?_
  refine V_regionX Γ Δ [] [0, 1, 2, 3, 6, 9] (evs ?_)
  all_goals (try with_reducible (repeat' (first | apply And.intro | intro _)))
  all_goals (try (first | with_reducible refine wa_id ?_ | exact True.intro | exact richeck_fn ⟨_, _, _⟩ | omega))
  refine V_cond (evs ?_)
  refine ⟨fun hc => ?_, fun hc => ?_⟩
  · refine WA_seq (x := (fcd Tryz.f37 [1, 0, 1, 0, 0])) (y := (fcd Tryz.f37 [1, 0, 1, 0, 1])) ?_
    refine V_regionX Γ Δ [] [0, 1, 2, 3, 6, 9] (evs ?_)
    all_goals (try with_reducible (repeat' (first | apply And.intro | intro _)))
    all_goals (try (first | with_reducible refine wa_id ?_ | exact True.intro | omega))
    refine V_ret (evs ?_)
    first | exact pe (p := zP) (at_0 hc) | exact pe (at_1 hm)
  · refine WA_skip ?_
    refine WA_seq (x := (fcd Tryz.f37 [1, 1, 0])) (y := (fcd Tryz.f37 [1, 1, 1])) ?_
    refine V_regionX Γ Δ [] [0, 1, 2, 3, 6, 9] (evs ?_)
    have hm := hc
    all_goals (try with_reducible (repeat' (first | apply And.intro | intro _)))
    all_goals (try (first | with_reducible refine wa_id ?_ | exact True.intro | exact pickp_fn ⟨_, _, _⟩ _ _ hm | omega))
    refine V_ret (evs ?_)
    first | exact pe (p := zP) (at_0 hc) | exact pe (at_1 hm)

end Go.S35

