import Derived.Test.YtgkflbibpkkegaaGreatDoorB1
import Derived.Test.YtgkflbibpkkegaaGreatDoorA1
set_option linter.unusedSimpArgs false
set_option linter.unusedVariables false
set_option linter.unusedSimpArgs false
set_option linter.unusedVariables false
namespace Go.S35
open Go.RowKit Go.Proofs Go.Eng Go.Rect
set_option maxHeartbeats 2000000 in
set_option maxRecDepth 100000 in
theorem pneeds_fn (w h l : Int) (out : Rc) : Eng.Fn Tryz.prog 12 [.i w, .i h, .i l, rcD out] (.dat (rcD (ndsR w h l out))) := by
  refine Eng.Fn.by (fn := Tryz.f12) 80 [.cell 8 23] Tryz.func12 rfl Tryz.ntmps12 rfl (by simp) fun w0 G0 => ?_
  refine WA_seq (x := (fcd Tryz.f12 [0])) (y := (fcd Tryz.f12 [1])) ?_
  refine V_regionX Γ Δ [] [0, 1, 2, 3, 7, 8, 9, 10, 11, 33, 56] (evs ?_)
  all_goals (try with_reducible (repeat' (first | apply And.intro | intro _)))
  all_goals (try (first | with_reducible refine wa_id ?_ | exact True.intro | omega | (rw [show IntKind.i64.bits = 64 from rfl]; omega) | exact within_fn out ⟨0, 0, szK w l, szK h l⟩ | exact meet_fn ⟨_, _, _, _⟩ ⟨_, _, _, _⟩))
  refine WA_seq (x := (fcd Tryz.f12 [1, 0])) (y := (fcd Tryz.f12 [1, 1])) ?_
  refine WA_seq (x := (fcd Tryz.f12 [1, 0, 0])) (y := (fcd Tryz.f12 [1, 0, 1])) ?_
  refine V_regionX Γ Δ [] [0, 1, 2, 3, 7, 8, 9, 10, 11, 33, 56] (evs ?_)
  all_goals (try with_reducible (repeat' (first | apply And.intro | intro _)))
  all_goals (try (first | with_reducible refine wa_id ?_ | exact True.intro | omega | (rw [show IntKind.i64.bits = 64 from rfl]; omega) | exact within_fn out ⟨0, 0, szK w l, szK h l⟩ | exact meet_fn ⟨_, _, _, _⟩ ⟨_, _, _, _⟩))
  refine V_cond (evs ?_)
  refine ⟨fun hc => ?_, fun hc => ?_⟩
  · refine WA_seq (x := (fcd Tryz.f12 [1, 0, 1, 0, 0])) (y := (fcd Tryz.f12 [1, 0, 1, 0, 1])) ?_
    refine V_regionX Γ Δ [] [0, 1, 2, 3, 7, 8, 9, 10, 11, 33, 56] (evs ?_)
    all_goals (try with_reducible (repeat' (first | apply And.intro | intro _)))
    all_goals (try (first | with_reducible refine wa_id ?_ | exact True.intro | omega | (rw [show IntKind.i64.bits = 64 from rfl]; omega) | exact within_fn out ⟨0, 0, szK w l, szK h l⟩ | exact meet_fn ⟨_, _, _, _⟩ ⟨_, _, _, _⟩))
    refine V_ret (evs ?_)
    first | exact fe (r := zR) (nd_a hc) | exact fe (r := zR) (ne1 hc) | exact fe (nd_c h0 he hw)
  · refine WA_skip ?_
    refine WA_seq (x := (fcd Tryz.f12 [1, 1, 0])) (y := (fcd Tryz.f12 [1, 1, 1])) ?_
    refine V_regionX Γ Δ [] [0, 1, 2, 3, 7, 8, 9, 10, 11, 33, 56] (evs ?_)
    have h0 : ((((1 ≤ w ∧ w ≤ 256) ∧ 1 ≤ h) ∧ h ≤ 256) ∧ 0 ≤ l) ∧ l ≤ 4 := by omega
    all_goals (try with_reducible (repeat' (first | apply And.intro | intro _)))
    all_goals (try (first | with_reducible refine wa_id ?_ | exact True.intro | exact psize_fn _ _ _ | omega | (rw [show IntKind.i64.bits = 64 from rfl]; omega) | exact within_fn out ⟨0, 0, szK w l, szK h l⟩ | exact meet_fn ⟨_, _, _, _⟩ ⟨_, _, _, _⟩))
    refine WA_seq (x := (fcd Tryz.f12 [1, 1, 1, 0])) (y := (fcd Tryz.f12 [1, 1, 1, 1])) ?_
    refine WA_seq (x := (fcd Tryz.f12 [1, 1, 1, 0, 0])) (y := (fcd Tryz.f12 [1, 1, 1, 0, 1])) ?_
    refine V_regionX Γ Δ [] [0, 1, 2, 3, 7, 8, 9, 10, 11, 33, 56] (evs ?_)
    all_goals (try with_reducible (repeat' (first | apply And.intro | intro _)))
    all_goals (try (first | with_reducible refine wa_id ?_ | exact True.intro | exact valid_fn _ | exact empty_fn _ | exact within_fn _ _ | omega | (rw [show IntKind.i64.bits = 64 from rfl]; omega) | exact within_fn out ⟨0, 0, szK w l, szK h l⟩ | exact meet_fn ⟨_, _, _, _⟩ ⟨_, _, _, _⟩))
    refine V_cond (evs ?_)
    refine ⟨fun hc => ?_, fun hc => ?_⟩
    · refine WA_seq (x := (fcd Tryz.f12 [1, 1, 1, 0, 1, 0, 0])) (y := (fcd Tryz.f12 [1, 1, 1, 0, 1, 0, 1])) ?_
      refine V_regionX Γ Δ [] [0, 1, 2, 3, 7, 8, 9, 10, 11, 33, 56] (evs ?_)
      all_goals (try with_reducible (repeat' (first | apply And.intro | intro _)))
      all_goals (try (first | with_reducible refine wa_id ?_ | exact True.intro | omega | (rw [show IntKind.i64.bits = 64 from rfl]; omega) | exact within_fn out ⟨0, 0, szK w l, szK h l⟩ | exact meet_fn ⟨_, _, _, _⟩ ⟨_, _, _, _⟩))
      refine V_ret (evs ?_)
      first | exact fe (r := zR) (nd_a hc) | exact fe (r := zR) (ne1 hc) | exact fe (nd_c h0 he hw)
    · refine WA_skip ?_
      refine WA_seq (x := (fcd Tryz.f12 [1, 1, 1, 1, 0])) (y := (fcd Tryz.f12 [1, 1, 1, 1, 1])) ?_
      refine V_draw Γ [] [0, 1, 2, 3, 7, 8, 9, 10, 11, 33, 56] mixed (by kernel_rfl) (evs ?_)
      have he : emptyB out = false := ne2 hc
      have hw := ne3 hc
      have hin := nds_in h0 he hw
      have hp := pow_le (k := l.toNat) (by omega)
      simp only [sh_w hp hin.1, sh_w hp hin.2.1, sh_w hp hin.2.2.1, sh_w hp hin.2.2.2]
      all_goals (try with_reducible (repeat' (first | apply And.intro | intro _)))
      all_goals (try (first | with_reducible refine wa_id ?_ | exact True.intro | omega | (rw [show IntKind.i64.bits = 64 from rfl]; omega) | exact within_fn out ⟨0, 0, szK w l, szK h l⟩ | exact meet_fn ⟨_, _, _, _⟩ ⟨_, _, _, _⟩))
      refine WA_seq (x := (fcd Tryz.f12 [1, 1, 1, 1, 1, 0])) (y := (fcd Tryz.f12 [1, 1, 1, 1, 1, 1])) ?_
      refine V_regionX Γ Δ [] [0, 1, 2, 3, 7, 8, 9, 10, 11, 33, 56] (evs ?_)
      all_goals (try with_reducible (repeat' (first | apply And.intro | intro _)))
      all_goals (try (first | with_reducible refine wa_id ?_ | exact True.intro | exact meet_fn _ _ | omega | (rw [show IntKind.i64.bits = 64 from rfl]; omega) | exact within_fn out ⟨0, 0, szK w l, szK h l⟩ | exact meet_fn ⟨_, _, _, _⟩ ⟨_, _, _, _⟩))
      refine V_ret (evs ?_)
      first | exact fe (r := zR) (nd_a hc) | exact fe (r := zR) (ne1 hc) | exact fe (nd_c h0 he hw)

end Go.S35

