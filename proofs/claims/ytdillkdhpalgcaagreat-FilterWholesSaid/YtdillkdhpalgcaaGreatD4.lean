import Derived.Test.YtdillkdhpalgcaaGreatD1
import Derived.Test.YtdillkdhpalgcaaGreatD3
set_option linter.unusedSimpArgs false
set_option linter.unusedVariables false
set_option linter.unusedSimpArgs false
set_option linter.unusedVariables false
namespace Go.S16
open Go.RowKit Go.Proofs Go.Eng Go.Rect
set_option maxHeartbeats 4000000 in
set_option maxRecDepth 100000 in
theorem edge_fn (v : Vw) (a b c d e : D) (x y : Int) (hv : EdH v x y) : Eng.Fn Tryz.prog 34 [.bx (vwC v a b c d e), .i x, .i y] (.dat (pxD (edgeF v x y))) := by
  obtain ⟨e1, e2, e3, e4w, e5, e6, e7, e8, e9⟩ := ed_in hv
  have hx := hv.1
  have l00 := lumF_bd v (x + 1) (y + 1)
  have l01 := lumF_bd v (x + 1) (y - 1)
  have l10 := lumF_bd v (x - 1) (y + 1)
  have l11 := lumF_bd v (x - 1) (y - 1)
  have l22 := lumF_bd v (x + 1) y
  have l23 := lumF_bd v (x - 1) y
  have l24 := lumF_bd v x (y + 1)
  have l25 := lumF_bd v x (y - 1)
  refine Eng.Fn.by (fn := Tryz.f34) 104 [.cell 6 49] Tryz.func34 rfl Tryz.ntmps34 rfl (by simp) fun w0 G0 => ?_
  refine WA_seq (x := (fcd Tryz.f34 [0])) (y := (fcd Tryz.f34 [1])) ?_
  refine V_regionX Γ Δ [] [0, 1, 2, 6, 7, 8, 9, 10] (evs ?_)
  all_goals (try with_reducible (repeat' (first | apply And.intro | intro _)))
  all_goals (try (first | with_reducible refine wa_id ?_ | exact True.intro | omega))
  refine WA_seq (x := (fcd Tryz.f34 [1, 0])) (y := (fcd Tryz.f34 [1, 1])) ?_
  refine V_regionX Γ Δ [] [0, 1, 2, 6, 7, 8, 9, 10] (evs ?_)
  (try simp (maxSteps := 10000000) (disch := omega) only [w64])
  all_goals (try with_reducible (repeat' (first | apply And.intro | intro _)))
  all_goals (try (first | with_reducible refine wa_id ?_ | exact True.intro | exact vluma_fn ⟨⟨_, _, _⟩, ⟨_, _⟩, ⟨_, _, _, _⟩, _, _, _⟩ _ _ _ _ _ _ _ (by assumption) | omega))
  refine WA_seq (x := (fcd Tryz.f34 [1, 1, 0])) (y := (fcd Tryz.f34 [1, 1, 1])) ?_
  refine V_regionX Γ Δ [] [0, 1, 2, 6, 7, 8, 9, 10] (evs ?_)
  (try simp (maxSteps := 10000000) (disch := omega) only [w64])
  all_goals (try with_reducible (repeat' (first | apply And.intro | intro _)))
  all_goals (try (first | with_reducible refine wa_id ?_ | exact True.intro | exact vluma_fn ⟨⟨_, _, _⟩, ⟨_, _⟩, ⟨_, _, _, _⟩, _, _, _⟩ _ _ _ _ _ _ _ (by assumption) | omega))
  refine WA_seq (x := (fcd Tryz.f34 [1, 1, 1, 0])) (y := (fcd Tryz.f34 [1, 1, 1, 1])) ?_
  refine V_regionX Γ Δ [] [0, 1, 2, 6, 7, 8, 9, 10] (evs ?_)
  (try simp (maxSteps := 10000000) (disch := omega) only [w64])
  all_goals (try with_reducible (repeat' (first | apply And.intro | intro _)))
  all_goals (try (first | with_reducible refine wa_id ?_ | exact True.intro | exact vluma_fn ⟨⟨_, _, _⟩, ⟨_, _⟩, ⟨_, _, _, _⟩, _, _, _⟩ _ _ _ _ _ _ _ (by assumption) | omega))
  refine WA_seq (x := (fcd Tryz.f34 [1, 1, 1, 1, 0])) (y := (fcd Tryz.f34 [1, 1, 1, 1, 1])) ?_
  refine V_regionX Γ Δ [] [0, 1, 2, 6, 7, 8, 9, 10] (evs ?_)
  (try simp (maxSteps := 10000000) (disch := omega) only [w64])
  all_goals (try with_reducible (repeat' (first | apply And.intro | intro _)))
  all_goals (try (first | with_reducible refine wa_id ?_ | exact True.intro | exact vluma_fn ⟨⟨_, _, _⟩, ⟨_, _⟩, ⟨_, _, _, _⟩, _, _, _⟩ _ _ _ _ _ _ _ (by assumption) | omega))
  refine WA_seq (x := (fcd Tryz.f34 [1, 1, 1, 1, 1, 0])) (y := (fcd Tryz.f34 [1, 1, 1, 1, 1, 1])) ?_
  refine V_regionX Γ Δ [] [0, 1, 2, 6, 7, 8, 9, 10] (evs ?_)
  (try simp (maxSteps := 10000000) (disch := omega) only [w64])
  all_goals (try with_reducible (repeat' (first | apply And.intro | intro _)))
  all_goals (try (first | with_reducible refine wa_id ?_ | exact True.intro | exact hypot_fn _ _ (by omega) (by omega) (by omega) (by omega) | exact pixel_fn ⟨⟨_, _, _⟩, ⟨_, _⟩, ⟨_, _, _, _⟩, _, _, _⟩ _ _ _ _ _ _ _ (by assumption) | exact gray_fn _ _ | omega))
  refine V_ret (evs ?_)
  first | exact ⟨rfl, rfl, rfl, rfl⟩

end Go.S16

