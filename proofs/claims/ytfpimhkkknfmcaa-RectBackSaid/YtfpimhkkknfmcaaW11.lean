import Derived.Test.YtfpimhkkknfmcaaW6
import Derived.Test.YtfpimhkkknfmcaaLA
set_option linter.unusedSimpArgs false
set_option linter.unusedVariables false
namespace Go.Rect
open Go.RowKit Go.Proofs Go.Eng
set_option maxHeartbeats 4000000 in
/-- imageeditor/imageeditorlaw02.RectBack -/
theorem l11_fn (r : Rc) (d : Pt) (n : Int) (h : 0 ≤ n ∧ n ≤ 255) : Eng.Fn Try.prog 11 [rcD r, ptD d, .v (.int .u8 n)] (.dat (.b true)) := by
  refine Eng.Fn.by (fn := Try.f11) 78 [.tmp 6] Try.func11 rfl Try.ntmps11 rfl (by simp) fun w0 => ?_
  refine WA_seq (x := (fcd Try.f11 [0])) (y := (fcd Try.f11 [1])) ?_
  refine V_regionX Γ Δ [] [0, 1, 2, 3, 4, 6, 7, 9, 43] (evs ?_)
  all_goals (try with_reducible (repeat' (first | apply And.intro | intro _)))
  all_goals (try (first | with_reducible refine wa_id ?_ | exact True.intro | omega | exact move_fn ⟨_, _, _, _⟩ ⟨_, _⟩ | exact grow_fn ⟨_, _, _, _⟩ _ | exact area_fn ⟨_, _, _, _⟩))
  refine WA_seq (x := (fcd Try.f11 [1, 0])) (y := (fcd Try.f11 [1, 1])) ?_
  refine WA_seq (x := (fcd Try.f11 [1, 0, 0])) (y := (fcd Try.f11 [1, 0, 1])) ?_
  refine V_regionX Γ Δ [] [0, 1, 2, 3, 4, 6, 7, 9, 43] (evs ?_)
  all_goals (try with_reducible (repeat' (first | apply And.intro | intro _)))
  all_goals (try (first | with_reducible refine wa_id ?_ | exact True.intro | exact awake_fn | omega | exact move_fn ⟨_, _, _, _⟩ ⟨_, _⟩ | exact grow_fn ⟨_, _, _, _⟩ _ | exact area_fn ⟨_, _, _, _⟩))
  refine V_cond (evs ?_)
  refine ⟨fun hc => hc.elim, ?_⟩
  refine WA_skip ?_
  refine WA_seq (x := (fcd Try.f11 [1, 1, 0])) (y := (fcd Try.f11 [1, 1, 1])) ?_
  refine V_drawA Γ [(1, 3, 0), (4, 3, 1), (7, 4, 0), (10, 4, 1), (13, 3, 0), (15, 3, 1), (17, 4, 0), (19, 4, 1)] [] [0, 1, 2, 3, 4, 6, 7, 9, 43] mixed (by kernel_rfl) (evs ?_)
  have hx := tm1000 r.x
  have hy := tm1000 r.y
  have hdx := tm1000 d.x
  have hdy := tm1000 d.y
  generalize r.x.tmod 1000 = X at hx ⊢
  generalize r.y.tmod 1000 = Y at hy ⊢
  generalize d.x.tmod 1000 = DX at hdx ⊢
  generalize d.y.tmod 1000 = DY at hdy ⊢
  all_goals (try with_reducible (repeat' (first | apply And.intro | intro _)))
  all_goals (try (first | with_reducible refine wa_id ?_ | exact True.intro | omega | exact move_fn ⟨_, _, _, _⟩ ⟨_, _⟩ | exact grow_fn ⟨_, _, _, _⟩ _ | exact area_fn ⟨_, _, _, _⟩))
  refine WA_seq (x := (fcd Try.f11 [1, 1, 1, 0])) (y := (fcd Try.f11 [1, 1, 1, 1])) ?_
  refine WA_seq (x := (fcd Try.f11 [1, 1, 1, 0, 0])) (y := (fcd Try.f11 [1, 1, 1, 0, 1])) ?_
  refine V_regionX Γ Δ [] [0, 1, 2, 3, 4, 6, 7, 9, 43] (evs ?_)
  all_goals (try with_reducible (repeat' (first | apply And.intro | intro _)))
  all_goals (try (first | with_reducible refine wa_id ?_ | exact True.intro | omega | exact move_fn ⟨_, _, _, _⟩ ⟨_, _⟩ | exact grow_fn ⟨_, _, _, _⟩ _ | exact area_fn ⟨_, _, _, _⟩))
  refine V_cond (evs ?_)
  refine ⟨fun hc => ?_, fun hc => ?_⟩
  · refine WA_seq (x := (fcd Try.f11 [1, 1, 1, 0, 1, 0, 0])) (y := (fcd Try.f11 [1, 1, 1, 0, 1, 0, 1])) ?_
    refine V_regionX Γ Δ [] [0, 1, 2, 3, 4, 6, 7, 9, 43] (evs ?_)
    all_goals (try with_reducible (repeat' (first | apply And.intro | intro _)))
    all_goals (try (first | with_reducible refine wa_id ?_ | exact True.intro | omega | exact move_fn ⟨_, _, _, _⟩ ⟨_, _⟩ | exact grow_fn ⟨_, _, _, _⟩ _ | exact area_fn ⟨_, _, _, _⟩))
    refine V_ret (evs ?_)
    first | exact True.intro | (rw [B.1, B.2.1, B.2.2]; exact ⟨⟨⟨rfl, rfl, rfl, rfl⟩, rfl, rfl, rfl, rfl⟩, rfl⟩)
  · refine WA_skip ?_
    refine WA_seq (x := (fcd Try.f11 [1, 1, 1, 1, 0])) (y := (fcd Try.f11 [1, 1, 1, 1, 1])) ?_
    refine V_regionX Γ Δ [] [0, 1, 2, 3, 4, 6, 7, 9, 43] (evs ?_)
    have hwh := hc
    simp (disch := omega) only [w64]
    all_goals (try with_reducible (repeat' (first | apply And.intro | intro _)))
    all_goals (try (first | with_reducible refine wa_id ?_ | exact True.intro | omega | exact move_fn ⟨_, _, _, _⟩ ⟨_, _⟩ | exact grow_fn ⟨_, _, _, _⟩ _ | exact area_fn ⟨_, _, _, _⟩))
    refine WA_seq (x := (fcd Try.f11 [1, 1, 1, 1, 1, 0])) (y := (fcd Try.f11 [1, 1, 1, 1, 1, 1])) ?_
    refine V_draw Γ [] [0, 1, 2, 3, 4, 6, 7, 9, 43] mixed (by kernel_rfl) (evs ?_)
    simp (disch := omega) only [w64]
    simp only [unRcW, unPtW, Int.zero_sub]
    have B := back hx hy (w := r.w) (h := r.h) (by omega) (by omega) hdx hdy h
    all_goals (try with_reducible (repeat' (first | apply And.intro | intro _)))
    all_goals (try (first | with_reducible refine wa_id ?_ | exact True.intro | exact move_fn _ _ | exact grow_fn _ _ | exact area_fn _ | omega | exact move_fn ⟨_, _, _, _⟩ ⟨_, _⟩ | exact grow_fn ⟨_, _, _, _⟩ _ | exact area_fn ⟨_, _, _, _⟩))
    refine V_ret (evs ?_)
    first | exact True.intro | (rw [B.1, B.2.1, B.2.2]; exact ⟨⟨⟨rfl, rfl, rfl, rfl⟩, rfl, rfl, rfl, rfl⟩, rfl⟩)

end Go.Rect

