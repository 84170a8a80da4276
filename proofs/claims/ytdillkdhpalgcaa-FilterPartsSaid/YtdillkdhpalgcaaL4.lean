import Derived.Test.YtdillkdhpalgcaaLI
import Derived.Test.YtdillkdhpalgcaaE1
import Derived.Test.YtdillkdhpalgcaaB9
import Derived.Test.YtdillkdhpalgcaaB10
set_option linter.unusedSimpArgs false
set_option linter.unusedVariables false
set_option linter.unusedSimpArgs false
set_option linter.unusedVariables false
namespace Go.S16
open Go.RowKit Go.Proofs Go.Eng Go.Rect
set_option maxHeartbeats 8000000 in
set_option maxRecDepth 100000 in
/-- imageeditor/imageeditorlaw16.FilterParts -/
theorem l_parts (i : Im) (k : Int) (ps : List Int) (out : Rc) : Eng.Fn Try.prog 4 [.agg [.i i.w, .i i.h, .sl 4 (i.p.map pxC), .i k, .sl 1 (ps.map iC), .i out.x, .i out.y, .i out.w, .i out.h]] (.dat (.b true)) := by
  refine Eng.Fn.by (fn := Try.f4) 134 [.tmp 2] Try.func4 rfl Try.ntmps4 rfl (by simp) fun w0 G0 => ?_
  refine WA_seq (x := (fcd Try.f4 [0])) (y := (fcd Try.f4 [1])) ?_
  refine V_regionX Γ Δ [62, 99, 115, 121] [0, 1, 2, 3, 4, 5, 6, 7, 8, 9, 10, 11, 12, 13, 57, 85, 95, 103] (evs ?_)
  all_goals (try with_reducible (repeat' (first | apply And.intro | intro _)))
  all_goals (try (first | with_reducible refine wa_id ?_ | exact True.intro | omega | exact whole_fn i k ps | exact rwithin_fn out ⟨0, 0, i.w, i.h⟩ | exact rcrp_fn i (needR k ps out ⟨0, 0, i.w, i.h⟩) | exact rcrp_fn ⟨i.w, i.h, (whlR i k ps).p⟩ out | exact rcrp_fn (whlR i k ps) out | exact sameI_fn _ _ | exact fneed_fn _ _ ⟨_, _, _, _⟩ ⟨_, _, _, _⟩))
  refine WA_seq (x := (fcd Try.f4 [1, 0])) (y := (fcd Try.f4 [1, 1])) ?_
  refine V_drawA Γ [(1, 1, 1000000), (3, 1, 1000000), (5, 1, 1000000), (7, 1, 1000000), (10, 3, 1000000), (13, 6, 1000000)] [62, 99, 115, 121] [0, 1, 2, 3, 4, 5, 6, 7, 8, 9, 10, 11, 12, 13, 57, 85, 95, 103] mixed (by kernel_rfl) (evs ?_)
  all_goals (try with_reducible (repeat' (first | apply And.intro | intro _)))
  all_goals (try (first | with_reducible refine wa_id ?_ | exact True.intro | omega | exact whole_fn i k ps | exact rwithin_fn out ⟨0, 0, i.w, i.h⟩ | exact rcrp_fn i (needR k ps out ⟨0, 0, i.w, i.h⟩) | exact rcrp_fn ⟨i.w, i.h, (whlR i k ps).p⟩ out | exact rcrp_fn (whlR i k ps) out | exact sameI_fn _ _ | exact fneed_fn _ _ ⟨_, _, _, _⟩ ⟨_, _, _, _⟩))
  refine WA_seq (x := (fcd Try.f4 [1, 1, 0])) (y := (fcd Try.f4 [1, 1, 1])) ?_
  refine V_regionX Γ Δ [62, 99, 115, 121] [0, 1, 2, 3, 4, 5, 6, 7, 8, 9, 10, 11, 12, 13, 57, 85, 95, 103] (evs ?_)
  all_goals (try with_reducible (repeat' (first | apply And.intro | intro _)))
  all_goals (try (first | with_reducible refine wa_id ?_ | exact True.intro | omega | exact whole_fn i k ps | exact rwithin_fn out ⟨0, 0, i.w, i.h⟩ | exact rcrp_fn i (needR k ps out ⟨0, 0, i.w, i.h⟩) | exact rcrp_fn ⟨i.w, i.h, (whlR i k ps).p⟩ out | exact rcrp_fn (whlR i k ps) out | exact sameI_fn _ _ | exact fneed_fn _ _ ⟨_, _, _, _⟩ ⟨_, _, _, _⟩))
  refine WA_seq (x := (fcd Try.f4 [1, 1, 1, 0])) (y := (fcd Try.f4 [1, 1, 1, 1])) ?_
  refine WA_seq (x := (fcd Try.f4 [1, 1, 1, 0, 0])) (y := (fcd Try.f4 [1, 1, 1, 0, 1])) ?_
  refine V_regionX Γ Δ [62, 99, 115, 121] [0, 1, 2, 3, 4, 5, 6, 7, 8, 9, 10, 11, 12, 13, 57, 85, 95, 103] (evs ?_)
  all_goals (try with_reducible (repeat' (first | apply And.intro | intro _)))
  all_goals (try (first | with_reducible refine wa_id ?_ | exact True.intro | exact richeck_fn ⟨_, _, _⟩ | exact rfcheck_fn _ _ | exact rvalid_fn _ | exact rempty_fn _ | exact rwithin_fn _ _ | omega | exact whole_fn i k ps | exact rwithin_fn out ⟨0, 0, i.w, i.h⟩ | exact rcrp_fn i (needR k ps out ⟨0, 0, i.w, i.h⟩) | exact rcrp_fn ⟨i.w, i.h, (whlR i k ps).p⟩ out | exact rcrp_fn (whlR i k ps) out | exact sameI_fn _ _ | exact fneed_fn _ _ ⟨_, _, _, _⟩ ⟨_, _, _, _⟩))
  refine V_cond (evs ?_)
  refine ⟨fun hc => ?_, fun hc => ?_⟩
  · refine WA_seq (x := (fcd Try.f4 [1, 1, 1, 0, 1, 0, 0])) (y := (fcd Try.f4 [1, 1, 1, 0, 1, 0, 1])) ?_
    refine V_regionX Γ Δ [62, 99, 115, 121] [0, 1, 2, 3, 4, 5, 6, 7, 8, 9, 10, 11, 12, 13, 57, 85, 95, 103] (evs ?_)
    all_goals (try with_reducible (repeat' (first | apply And.intro | intro _)))
    all_goals (try (first | with_reducible refine wa_id ?_ | exact True.intro | omega | exact whole_fn i k ps | exact rwithin_fn out ⟨0, 0, i.w, i.h⟩ | exact rcrp_fn i (needR k ps out ⟨0, 0, i.w, i.h⟩) | exact rcrp_fn ⟨i.w, i.h, (whlR i k ps).p⟩ out | exact rcrp_fn (whlR i k ps) out | exact sameI_fn _ _ | exact fneed_fn _ _ ⟨_, _, _, _⟩ ⟨_, _, _, _⟩))
    refine V_ret (evs ?_)
    first | rfl | exact ⟨ptl_aE H, decide_eq_true (ptl_eq H)⟩ | (simp; done)
  · refine WA_skip ?_
    refine WA_seq (x := (fcd Try.f4 [1, 1, 1, 1, 0])) (y := (fcd Try.f4 [1, 1, 1, 1, 1])) ?_
    refine V_regionX Γ Δ [62, 99, 115, 121] [0, 1, 2, 3, 4, 5, 6, 7, 8, 9, 10, 11, 12, 13, 57, 85, 95, 103] (evs ?_)
    have H : PtH i k ps out := pt_mk hc
    have hwh := ptl_wh H
    have hq := (ichk0 hwh.2.1).2.2.1
    have hqz := nn_bd (ichk0 hwh.2.1).1
    have ewh : (⟨i.w, i.h, (whlR i k ps).p⟩ : Im) = whlR i k ps := by rw [← hwh.2.2.1, ← hwh.2.2.2]
    all_goals (try with_reducible (repeat' (first | apply And.intro | intro _)))
    all_goals (try (first | with_reducible refine wa_id ?_ | exact True.intro | exact whole_fn ⟨_, _, _⟩ _ _ | omega | exact whole_fn i k ps | exact rwithin_fn out ⟨0, 0, i.w, i.h⟩ | exact rcrp_fn i (needR k ps out ⟨0, 0, i.w, i.h⟩) | exact rcrp_fn ⟨i.w, i.h, (whlR i k ps).p⟩ out | exact rcrp_fn (whlR i k ps) out | exact sameI_fn _ _ | exact fneed_fn _ _ ⟨_, _, _, _⟩ ⟨_, _, _, _⟩))
    refine WA_seq (x := (fcd Try.f4 [1, 1, 1, 1, 1, 0])) (y := (fcd Try.f4 [1, 1, 1, 1, 1, 1])) ?_
    refine WA_seq (x := (fcd Try.f4 [1, 1, 1, 1, 1, 0, 0])) (y := (fcd Try.f4 [1, 1, 1, 1, 1, 0, 1])) ?_
    refine V_regionX Γ Δ [62, 99, 115, 121] [0, 1, 2, 3, 4, 5, 6, 7, 8, 9, 10, 11, 12, 13, 57, 85, 95, 103] (evs ?_)
    all_goals (try with_reducible (repeat' (first | apply And.intro | intro _)))
    all_goals (try (first | with_reducible refine wa_id ?_ | exact True.intro | exact richeck_fn ⟨_, _, _⟩ | omega | exact whole_fn i k ps | exact rwithin_fn out ⟨0, 0, i.w, i.h⟩ | exact rcrp_fn i (needR k ps out ⟨0, 0, i.w, i.h⟩) | exact rcrp_fn ⟨i.w, i.h, (whlR i k ps).p⟩ out | exact rcrp_fn (whlR i k ps) out | exact sameI_fn _ _ | exact fneed_fn _ _ ⟨_, _, _, _⟩ ⟨_, _, _, _⟩))
    simp only [hwh.1, hwh.2.1, hwh.2.2.1, hwh.2.2.2, bne_self_eq_false, Bool.or_self]
    refine V_cond (evs ?_)
    refine ⟨fun hc => hc.elim, ?_⟩
    refine WA_skip ?_
    refine WA_seq (x := (fcd Try.f4 [1, 1, 1, 1, 1, 1, 0])) (y := (fcd Try.f4 [1, 1, 1, 1, 1, 1, 1])) ?_
    refine V_regionX Γ Δ [62, 99, 115, 121] [0, 1, 2, 3, 4, 5, 6, 7, 8, 9, 10, 11, 12, 13, 57, 85, 95, 103] (evs ?_)
    all_goals (try with_reducible (repeat' (first | apply And.intro | intro _)))
    all_goals (try (first | with_reducible refine wa_id ?_ | exact True.intro | exact fneed_fn _ _ ⟨_, _, _, _⟩ ⟨_, _, _, _⟩ | omega | exact whole_fn i k ps | exact rwithin_fn out ⟨0, 0, i.w, i.h⟩ | exact rcrp_fn i (needR k ps out ⟨0, 0, i.w, i.h⟩) | exact rcrp_fn ⟨i.w, i.h, (whlR i k ps).p⟩ out | exact rcrp_fn (whlR i k ps) out | exact sameI_fn _ _ | exact fneed_fn _ _ ⟨_, _, _, _⟩ ⟨_, _, _, _⟩))
    refine WA_seq (x := (fcd Try.f4 [1, 1, 1, 1, 1, 1, 1, 0])) (y := (fcd Try.f4 [1, 1, 1, 1, 1, 1, 1, 1])) ?_
    refine WA_seq (x := (fcd Try.f4 [1, 1, 1, 1, 1, 1, 1, 0, 0])) (y := (fcd Try.f4 [1, 1, 1, 1, 1, 1, 1, 0, 1])) ?_
    refine V_regionX Γ Δ [62, 99, 115, 121] [0, 1, 2, 3, 4, 5, 6, 7, 8, 9, 10, 11, 12, 13, 57, 85, 95, 103] (evs ?_)
    all_goals (try with_reducible (repeat' (first | apply And.intro | intro _)))
    all_goals (try (first | with_reducible refine wa_id ?_ | exact True.intro | omega | exact whole_fn i k ps | exact rwithin_fn out ⟨0, 0, i.w, i.h⟩ | exact rcrp_fn i (needR k ps out ⟨0, 0, i.w, i.h⟩) | exact rcrp_fn ⟨i.w, i.h, (whlR i k ps).p⟩ out | exact rcrp_fn (whlR i k ps) out | exact sameI_fn _ _ | exact fneed_fn _ _ ⟨_, _, _, _⟩ ⟨_, _, _, _⟩))
    simp only [show needE k ps out ⟨0, 0, i.w, i.h⟩ = 0 from ptl_need H, bne_self_eq_false]
    refine V_cond (evs ?_)
    refine ⟨fun hc => hc.elim, ?_⟩
    refine WA_skip ?_
    refine WA_seq (x := (fcd Try.f4 [1, 1, 1, 1, 1, 1, 1, 1, 0])) (y := (fcd Try.f4 [1, 1, 1, 1, 1, 1, 1, 1, 1])) ?_
    refine V_regionX Γ Δ [62, 99, 115, 121] [0, 1, 2, 3, 4, 5, 6, 7, 8, 9, 10, 11, 12, 13, 57, 85, 95, 103] (evs ?_)
    all_goals (try with_reducible (repeat' (first | apply And.intro | intro _)))
    all_goals (try (first | with_reducible refine wa_id ?_ | exact True.intro | exact rcrp_fn ⟨_, _, _⟩ ⟨_, _, _, _⟩ | omega | exact whole_fn i k ps | exact rwithin_fn out ⟨0, 0, i.w, i.h⟩ | exact rcrp_fn i (needR k ps out ⟨0, 0, i.w, i.h⟩) | exact rcrp_fn ⟨i.w, i.h, (whlR i k ps).p⟩ out | exact rcrp_fn (whlR i k ps) out | exact sameI_fn _ _ | exact fneed_fn _ _ ⟨_, _, _, _⟩ ⟨_, _, _, _⟩))
    refine WA_seq (x := (fcd Try.f4 [1, 1, 1, 1, 1, 1, 1, 1, 1, 0])) (y := (fcd Try.f4 [1, 1, 1, 1, 1, 1, 1, 1, 1, 1])) ?_
    refine WA_seq (x := (fcd Try.f4 [1, 1, 1, 1, 1, 1, 1, 1, 1, 0, 0])) (y := (fcd Try.f4 [1, 1, 1, 1, 1, 1, 1, 1, 1, 0, 1])) ?_
    refine V_regionX Γ Δ [62, 99, 115, 121] [0, 1, 2, 3, 4, 5, 6, 7, 8, 9, 10, 11, 12, 13, 57, 85, 95, 103] (evs ?_)
    all_goals (try with_reducible (repeat' (first | apply And.intro | intro _)))
    all_goals (try (first | with_reducible refine wa_id ?_ | exact True.intro | omega | exact whole_fn i k ps | exact rwithin_fn out ⟨0, 0, i.w, i.h⟩ | exact rcrp_fn i (needR k ps out ⟨0, 0, i.w, i.h⟩) | exact rcrp_fn ⟨i.w, i.h, (whlR i k ps).p⟩ out | exact rcrp_fn (whlR i k ps) out | exact sameI_fn _ _ | exact fneed_fn _ _ ⟨_, _, _, _⟩ ⟨_, _, _, _⟩))
    simp only [show crpE i (needR k ps out ⟨0, 0, i.w, i.h⟩) = 0 from ptl_c H, bne_self_eq_false]
    refine V_cond (evs ?_)
    refine ⟨fun hc => hc.elim, ?_⟩
    refine WA_skip ?_
    refine WA_seq (x := (fcd Try.f4 [1, 1, 1, 1, 1, 1, 1, 1, 1, 1, 0])) (y := (fcd Try.f4 [1, 1, 1, 1, 1, 1, 1, 1, 1, 1, 1])) ?_
    refine V_regionX Γ Δ [62, 99, 115, 121] [0, 1, 2, 3, 4, 5, 6, 7, 8, 9, 10, 11, 12, 13, 57, 85, 95, 103] (evs ?_)
    all_goals (try with_reducible (repeat' (first | apply And.intro | intro _)))
    all_goals (try (first | with_reducible refine wa_id ?_ | exact True.intro | exact apply_all ⟨_, _, _⟩ ⟨_, _⟩ ⟨_, _, _, _⟩ _ _ ⟨_, _, _, _⟩ | omega | exact whole_fn i k ps | exact rwithin_fn out ⟨0, 0, i.w, i.h⟩ | exact rcrp_fn i (needR k ps out ⟨0, 0, i.w, i.h⟩) | exact rcrp_fn ⟨i.w, i.h, (whlR i k ps).p⟩ out | exact rcrp_fn (whlR i k ps) out | exact sameI_fn _ _ | exact fneed_fn _ _ ⟨_, _, _, _⟩ ⟨_, _, _, _⟩))
    refine WA_seq (x := (fcd Try.f4 [1, 1, 1, 1, 1, 1, 1, 1, 1, 1, 1, 0])) (y := (fcd Try.f4 [1, 1, 1, 1, 1, 1, 1, 1, 1, 1, 1, 1])) ?_
    refine V_regionX Γ Δ [62, 99, 115, 121] [0, 1, 2, 3, 4, 5, 6, 7, 8, 9, 10, 11, 12, 13, 57, 85, 95, 103] (evs ?_)
    all_goals (try with_reducible (repeat' (first | apply And.intro | intro _)))
    all_goals (try (first | with_reducible refine wa_id ?_ | exact True.intro | exact rcrp_fn ⟨_, _, _⟩ ⟨_, _, _, _⟩ | omega | exact whole_fn i k ps | exact rwithin_fn out ⟨0, 0, i.w, i.h⟩ | exact rcrp_fn i (needR k ps out ⟨0, 0, i.w, i.h⟩) | exact rcrp_fn ⟨i.w, i.h, (whlR i k ps).p⟩ out | exact rcrp_fn (whlR i k ps) out | exact sameI_fn _ _ | exact fneed_fn _ _ ⟨_, _, _, _⟩ ⟨_, _, _, _⟩))
    simp only [ewh]
    refine WA_seq (x := (fcd Try.f4 [1, 1, 1, 1, 1, 1, 1, 1, 1, 1, 1, 1, 0])) (y := (fcd Try.f4 [1, 1, 1, 1, 1, 1, 1, 1, 1, 1, 1, 1, 1])) ?_
    refine V_regionX Γ Δ [62, 99, 115, 121] [0, 1, 2, 3, 4, 5, 6, 7, 8, 9, 10, 11, 12, 13, 57, 85, 95, 103] (evs ?_)
    all_goals (try with_reducible (repeat' (first | apply And.intro | intro _)))
    all_goals (try (first | with_reducible refine wa_id ?_ | exact True.intro | exact sameI_fn ⟨_, _, _⟩ ⟨_, _, _⟩ | exact example_fn | omega | exact whole_fn i k ps | exact rwithin_fn out ⟨0, 0, i.w, i.h⟩ | exact rcrp_fn i (needR k ps out ⟨0, 0, i.w, i.h⟩) | exact rcrp_fn ⟨i.w, i.h, (whlR i k ps).p⟩ out | exact rcrp_fn (whlR i k ps) out | exact sameI_fn _ _ | exact fneed_fn _ _ ⟨_, _, _, _⟩ ⟨_, _, _, _⟩))
    refine V_ret (evs ?_)
    first | rfl | exact ⟨ptl_aE H, decide_eq_true (ptl_eq H)⟩ | (simp; done)

end Go.S16

