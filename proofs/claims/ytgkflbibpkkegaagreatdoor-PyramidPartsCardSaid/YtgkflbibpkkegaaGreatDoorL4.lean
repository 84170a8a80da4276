import Derived.Test.YtgkflbibpkkegaaGreatDoorL0
import Derived.Test.YtgkflbibpkkegaaGreatDoorB11
set_option linter.unusedSimpArgs false
set_option linter.unusedVariables false
set_option linter.unusedSimpArgs false
set_option linter.unusedVariables false
namespace Go.S35
open Go.RowKit Go.Proofs Go.Eng Go.Rect
set_option maxHeartbeats 8000000 in
set_option maxRecDepth 100000 in
theorem l_parts (m : Im) (l : Int) (out : Rc) : Eng.Fn Tryz.prog 6 [imD m, .i l, rcD out] (.dat (.b true)) := by
  refine Eng.Fn.by (fn := Tryz.f6) 81 [.tmp 6] Tryz.func6 rfl Tryz.ntmps6 rfl (by simp) fun w0 G0 => ?_
  refine WA_seq (x := (fcd Tryz.f6 [0])) (y := (fcd Tryz.f6 [1])) ?_
  refine V_regionX Γ Δ [44, 50] [0, 1, 2, 3, 5, 6, 7, 8, 9, 10, 11, 12, 13, 14, 15, 18, 28] (evs ?_)
  all_goals (try with_reducible (repeat' (first | apply And.intro | intro _)))
  all_goals (try (first | with_reducible refine wa_id ?_ | exact True.intro | omega | exact sameI_fn _ _))
  refine WA_seq (x := (fcd Tryz.f6 [1, 0])) (y := (fcd Tryz.f6 [1, 1])) ?_
  refine WA_seq (x := (fcd Tryz.f6 [1, 0, 0])) (y := (fcd Tryz.f6 [1, 0, 1])) ?_
  refine V_regionX Γ Δ [44, 50] [0, 1, 2, 3, 5, 6, 7, 8, 9, 10, 11, 12, 13, 14, 15, 18, 28] (evs ?_)
  all_goals (try with_reducible (repeat' (first | apply And.intro | intro _)))
  all_goals (try (first | with_reducible refine wa_id ?_ | exact True.intro | exact icheck_fn ⟨_, _, _⟩ | omega | exact sameI_fn _ _))
  refine V_cond (evs ?_)
  refine ⟨fun hc => ?_, fun hc => ?_⟩
  · refine WA_seq (x := (fcd Tryz.f6 [1, 0, 1, 0, 0])) (y := (fcd Tryz.f6 [1, 0, 1, 0, 1])) ?_
    refine V_regionX Γ Δ [44, 50] [0, 1, 2, 3, 5, 6, 7, 8, 9, 10, 11, 12, 13, 14, 15, 18, 28] (evs ?_)
    all_goals (try with_reducible (repeat' (first | apply And.intro | intro _)))
    all_goals (try (first | with_reducible refine wa_id ?_ | exact True.intro | exact awake_fn | omega | exact sameI_fn _ _))
    refine V_ret (evs ?_)
    first | rfl | (simp; done) | (rw [parts_zero hm hc]; exact ⟨rfl, rfl, rfl, rfl⟩) | (have h := parts_law hm hc; exact ⟨⟨⟨⟨h.1, h.2.1⟩, h.2.2.1⟩, h.2.2.2.1⟩, decide_eq_true h.2.2.2.2⟩)
  · refine WA_skip ?_
    refine WA_seq (x := (fcd Tryz.f6 [1, 1, 0])) (y := (fcd Tryz.f6 [1, 1, 1])) ?_
    refine V_regionX Γ Δ [44, 50] [0, 1, 2, 3, 5, 6, 7, 8, 9, 10, 11, 12, 13, 14, 15, 18, 28] (evs ?_)
    have hm := hc
    all_goals (try with_reducible (repeat' (first | apply And.intro | intro _)))
    all_goals (try (first | with_reducible refine wa_id ?_ | exact True.intro | exact pneeds_fn _ _ _ ⟨_, _, _, _⟩ | omega | exact sameI_fn _ _))
    refine WA_seq (x := (fcd Tryz.f6 [1, 1, 1, 0])) (y := (fcd Tryz.f6 [1, 1, 1, 1])) ?_
    refine WA_seq (x := (fcd Tryz.f6 [1, 1, 1, 0, 0])) (y := (fcd Tryz.f6 [1, 1, 1, 0, 1])) ?_
    refine V_regionX Γ Δ [44, 50] [0, 1, 2, 3, 5, 6, 7, 8, 9, 10, 11, 12, 13, 14, 15, 18, 28] (evs ?_)
    all_goals (try with_reducible (repeat' (first | apply And.intro | intro _)))
    all_goals (try (first | with_reducible refine wa_id ?_ | exact True.intro | exact rempty_fn _ | omega | exact sameI_fn _ _))
    refine V_cond (evs ?_)
    refine ⟨fun hc => ?_, fun hc => ?_⟩
    · refine WA_seq (x := (fcd Tryz.f6 [1, 1, 1, 0, 1, 0, 0])) (y := (fcd Tryz.f6 [1, 1, 1, 0, 1, 0, 1])) ?_
      refine V_regionX Γ Δ [44, 50] [0, 1, 2, 3, 5, 6, 7, 8, 9, 10, 11, 12, 13, 14, 15, 18, 28] (evs ?_)
      all_goals (try with_reducible (repeat' (first | apply And.intro | intro _)))
      all_goals (try (first | with_reducible refine wa_id ?_ | exact True.intro | exact awake_fn | omega | exact sameI_fn _ _))
      refine V_ret (evs ?_)
      first | rfl | (simp; done) | (rw [parts_zero hm hc]; exact ⟨rfl, rfl, rfl, rfl⟩) | (have h := parts_law hm hc; exact ⟨⟨⟨⟨h.1, h.2.1⟩, h.2.2.1⟩, h.2.2.2.1⟩, decide_eq_true h.2.2.2.2⟩)
    · refine WA_skip ?_
      refine WA_seq (x := (fcd Tryz.f6 [1, 1, 1, 1, 0])) (y := (fcd Tryz.f6 [1, 1, 1, 1, 1])) ?_
      refine V_regionX Γ Δ [44, 50] [0, 1, 2, 3, 5, 6, 7, 8, 9, 10, 11, 12, 13, 14, 15, 18, 28] (evs ?_)
      all_goals (try with_reducible (repeat' (first | apply And.intro | intro _)))
      all_goals (try (first | with_reducible refine wa_id ?_ | exact True.intro | exact preduce_fn ⟨_, _, _⟩ _ | omega | exact sameI_fn _ _))
      refine WA_seq (x := (fcd Tryz.f6 [1, 1, 1, 1, 1, 0])) (y := (fcd Tryz.f6 [1, 1, 1, 1, 1, 1])) ?_
      refine V_regionX Γ Δ [44, 50] [0, 1, 2, 3, 5, 6, 7, 8, 9, 10, 11, 12, 13, 14, 15, 18, 28] (evs ?_)
      all_goals (try with_reducible (repeat' (first | apply And.intro | intro _)))
      all_goals (try (first | with_reducible refine wa_id ?_ | exact True.intro | exact pcrp_fn ⟨_, _, _⟩ ⟨_, _, _, _⟩ | omega | exact sameI_fn _ _))
      refine WA_seq (x := (fcd Tryz.f6 [1, 1, 1, 1, 1, 1, 0])) (y := (fcd Tryz.f6 [1, 1, 1, 1, 1, 1, 1])) ?_
      refine V_regionX Γ Δ [44, 50] [0, 1, 2, 3, 5, 6, 7, 8, 9, 10, 11, 12, 13, 14, 15, 18, 28] (evs ?_)
      all_goals (try with_reducible (repeat' (first | apply And.intro | intro _)))
      all_goals (try (first | with_reducible refine wa_id ?_ | exact True.intro | exact pcrp_fn ⟨_, _, _⟩ ⟨_, _, _, _⟩ | omega | exact sameI_fn _ _))
      refine WA_seq (x := (fcd Tryz.f6 [1, 1, 1, 1, 1, 1, 1, 0])) (y := (fcd Tryz.f6 [1, 1, 1, 1, 1, 1, 1, 1])) ?_
      refine V_regionX Γ Δ [44, 50] [0, 1, 2, 3, 5, 6, 7, 8, 9, 10, 11, 12, 13, 14, 15, 18, 28] (evs ?_)
      all_goals (try with_reducible (repeat' (first | apply And.intro | intro _)))
      all_goals (try (first | with_reducible refine wa_id ?_ | exact True.intro | exact preduce_fn ⟨_, _, _⟩ _ | omega | exact sameI_fn _ _))
      refine WA_seq (x := (fcd Tryz.f6 [1, 1, 1, 1, 1, 1, 1, 1, 0])) (y := (fcd Tryz.f6 [1, 1, 1, 1, 1, 1, 1, 1, 1])) ?_
      refine V_regionX Γ Δ [44, 50] [0, 1, 2, 3, 5, 6, 7, 8, 9, 10, 11, 12, 13, 14, 15, 18, 28] (evs ?_)
      all_goals (try with_reducible (repeat' (first | apply And.intro | intro _)))
      all_goals (try (first | with_reducible refine wa_id ?_ | exact True.intro | exact sameI_fn ⟨_, _, _⟩ ⟨_, _, _⟩ | exact awake_fn | omega | exact sameI_fn _ _))
      refine V_ret (evs ?_)
      first | rfl | (simp; done) | (rw [parts_zero hm hc]; exact ⟨rfl, rfl, rfl, rfl⟩) | (have h := parts_law hm hc; exact ⟨⟨⟨⟨h.1, h.2.1⟩, h.2.2.1⟩, h.2.2.2.1⟩, decide_eq_true h.2.2.2.2⟩)

end Go.S35

