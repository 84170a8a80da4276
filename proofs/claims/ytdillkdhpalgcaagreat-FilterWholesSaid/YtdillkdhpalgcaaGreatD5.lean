import Derived.Test.YtdillkdhpalgcaaGreatB4
import Derived.Test.YtdillkdhpalgcaaGreatD3
set_option linter.unusedSimpArgs false
set_option linter.unusedVariables false
set_option linter.unusedSimpArgs false
set_option linter.unusedVariables false
namespace Go.S16
open Go.RowKit Go.Proofs Go.Eng Go.Rect
theorem away_fn (am c s : Int) (S : Sm) (hS : SmOk S) (hm : 0 ≤ am ∧ am ≤ 262140) (hc : 0 ≤ c ∧ c ≤ 65535) (hs : 0 ≤ s ∧ s ≤ 65535 * S.a) : Eng.Fn Tryz.prog 66 [.i c, .i s, .bx [.i am], .bx (smC S)] (.dat (.i (awayI am c s S.a))) := by
  have hq := aw_bd hc hS.2.2.1 hs
  have hp := aw_mul hm hc hq
  have hd := dv_bd hp
  unfold SmOk at hS
  refine Eng.Fn.by (fn := Tryz.f66) 19 [.tmp 6] Tryz.func66 rfl Tryz.ntmps66 rfl (by simp) fun w0 G0 => ?_
  refine WA_seq (x := (fcd Tryz.f66 [0])) (y := (fcd Tryz.f66 [1])) ?_
  refine V_regionX Γ Δ [] [0, 1, 2, 3, 6] (evs ?_)
  all_goals (try with_reducible (repeat' (first | apply And.intro | intro _)))
  all_goals (try (first | with_reducible refine wa_id ?_ | exact True.intro | omega))
  refine WA_seq (x := (fcd Tryz.f66 [1, 0])) (y := (fcd Tryz.f66 [1, 1])) ?_
  refine V_draw Γ [] [0, 1, 2, 3, 6] mixed (by kernel_rfl) (evs ?_)
  (try simp (maxSteps := 10000000) (disch := omega) only [w64])
  all_goals (try with_reducible (repeat' (first | apply And.intro | intro _)))
  all_goals (try (first | with_reducible refine wa_id ?_ | exact True.intro | exact divw_fn _ _ (by omega) (by omega) (by omega) (by omega) | exact funit_fn _ | omega))
  refine V_ret (evs ?_)
  first | rfl

set_option maxHeartbeats 4000000 in
set_option maxRecDepth 100000 in
theorem sharpen_fn (v : Vw) (wt : List Int) (b c d e : D) (x y : Int) (hv : SqH v wt x y) (h3 : 0 ≤ v.ps.getD 1 0 ∧ v.ps.getD 1 0 ≤ 262140 ∧ v.ps.length = 2) : Eng.Fn Tryz.prog 32 [.bx (vwC v (.sl 1 (wt.map iC)) b c d e), .i x, .i y] (.dat (pxD (sharpF v wt x y))) := by
  have vi := sq_ctr hv
  have vb := vP_bd (pix_ok vi)
  have so := sm_a hv
  have so2 := so
  unfold SmOk at so2
  have hm : 0 ≤ v.ps.getD 1 0 ∧ v.ps.getD 1 0 ≤ 262140 := ⟨h3.1, h3.2.1⟩
  refine Eng.Fn.by (fn := Tryz.f32) 51 [.cell 6 49] Tryz.func32 rfl Tryz.ntmps32 rfl (by simp) fun w0 G0 => ?_
  refine WA_seq (x := (fcd Tryz.f32 [0])) (y := (fcd Tryz.f32 [1])) ?_
  refine V_regionX Γ Δ [] [0, 1, 2, 6, 7, 8, 9, 10, 17] (evs ?_)
  all_goals (try with_reducible (repeat' (first | apply And.intro | intro _)))
  all_goals (try (first | with_reducible refine wa_id ?_ | exact True.intro | omega | exact away_fn _ _ _ (sqS v wt x y) so hm vb.1 so2.2.2.2.2.1 | exact away_fn _ _ _ (sqS v wt x y) so hm vb.2.1 so2.2.2.2.2.2.1 | exact away_fn _ _ _ (sqS v wt x y) so hm vb.2.2.1 so2.2.2.2.2.2.2))
  refine WA_seq (x := (fcd Tryz.f32 [1, 0])) (y := (fcd Tryz.f32 [1, 1])) ?_
  refine V_regionX Γ Δ [] [0, 1, 2, 6, 7, 8, 9, 10, 17] (evs ?_)
  all_goals (try with_reducible (repeat' (first | apply And.intro | intro _)))
  all_goals (try (first | with_reducible refine wa_id ?_ | exact True.intro | exact pixel_fn ⟨⟨_, _, _⟩, ⟨_, _⟩, ⟨_, _, _, _⟩, _, _, _⟩ _ _ _ _ _ _ _ (by assumption) | omega | exact away_fn _ _ _ (sqS v wt x y) so hm vb.1 so2.2.2.2.2.1 | exact away_fn _ _ _ (sqS v wt x y) so hm vb.2.1 so2.2.2.2.2.2.1 | exact away_fn _ _ _ (sqS v wt x y) so hm vb.2.2.1 so2.2.2.2.2.2.2))
  refine WA_seq (x := (fcd Tryz.f32 [1, 1, 0])) (y := (fcd Tryz.f32 [1, 1, 1])) ?_
  refine WA_seq (x := (fcd Tryz.f32 [1, 1, 0, 0])) (y := (fcd Tryz.f32 [1, 1, 0, 1])) ?_
  refine V_regionX Γ Δ [] [0, 1, 2, 6, 7, 8, 9, 10, 17] (evs ?_)
  all_goals (try with_reducible (repeat' (first | apply And.intro | intro _)))
  all_goals (try (first | with_reducible refine wa_id ?_ | exact True.intro | omega | exact away_fn _ _ _ (sqS v wt x y) so hm vb.1 so2.2.2.2.2.1 | exact away_fn _ _ _ (sqS v wt x y) so hm vb.2.1 so2.2.2.2.2.2.1 | exact away_fn _ _ _ (sqS v wt x y) so hm vb.2.2.1 so2.2.2.2.2.2.2))
  refine V_cond (evs ?_)
  refine ⟨fun hc => ?_, fun hc => ?_⟩
  · refine WA_seq (x := (fcd Tryz.f32 [1, 1, 0, 1, 0, 0])) (y := (fcd Tryz.f32 [1, 1, 0, 1, 0, 1])) ?_
    refine V_regionX Γ Δ [] [0, 1, 2, 6, 7, 8, 9, 10, 17] (evs ?_)
    all_goals (try with_reducible (repeat' (first | apply And.intro | intro _)))
    all_goals (try (first | with_reducible refine wa_id ?_ | exact True.intro | omega | exact away_fn _ _ _ (sqS v wt x y) so hm vb.1 so2.2.2.2.2.1 | exact away_fn _ _ _ (sqS v wt x y) so hm vb.2.1 so2.2.2.2.2.2.1 | exact away_fn _ _ _ (sqS v wt x y) so hm vb.2.2.1 so2.2.2.2.2.2.2))
    refine V_ret (evs ?_)
    first | exact pe (p := zP) (sh1 hc) | exact pe (sh2 hc)
  · refine WA_skip ?_
    refine WA_seq (x := (fcd Tryz.f32 [1, 1, 1, 0])) (y := (fcd Tryz.f32 [1, 1, 1, 1])) ?_
    refine V_regionX Γ Δ [] [0, 1, 2, 6, 7, 8, 9, 10, 17] (evs ?_)
    all_goals (try with_reducible (repeat' (first | apply And.intro | intro _)))
    all_goals (try (first | with_reducible refine wa_id ?_ | exact True.intro | exact square_fn ⟨⟨_, _, _⟩, ⟨_, _⟩, ⟨_, _, _, _⟩, _, _, _⟩ _ _ _ _ _ _ _ (by assumption) | omega | exact away_fn _ _ _ (sqS v wt x y) so hm vb.1 so2.2.2.2.2.1 | exact away_fn _ _ _ (sqS v wt x y) so hm vb.2.1 so2.2.2.2.2.2.1 | exact away_fn _ _ _ (sqS v wt x y) so hm vb.2.2.1 so2.2.2.2.2.2.2))
    refine WA_seq (x := (fcd Tryz.f32 [1, 1, 1, 1, 0])) (y := (fcd Tryz.f32 [1, 1, 1, 1, 1])) ?_
    refine V_regionX Γ Δ [] [0, 1, 2, 6, 7, 8, 9, 10, 17] (evs ?_)
    all_goals (try with_reducible (repeat' (first | apply And.intro | intro _)))
    all_goals (try (first | with_reducible refine wa_id ?_ | exact True.intro | omega | exact away_fn _ _ _ (sqS v wt x y) so hm vb.1 so2.2.2.2.2.1 | exact away_fn _ _ _ (sqS v wt x y) so hm vb.2.1 so2.2.2.2.2.2.1 | exact away_fn _ _ _ (sqS v wt x y) so hm vb.2.2.1 so2.2.2.2.2.2.2))
    refine WA_seq (x := (fcd Tryz.f32 [1, 1, 1, 1, 1, 0])) (y := (fcd Tryz.f32 [1, 1, 1, 1, 1, 1])) ?_
    refine V_regionX Γ Δ [] [0, 1, 2, 6, 7, 8, 9, 10, 17] (evs ?_)
    all_goals (try with_reducible (repeat' (first | apply And.intro | intro _)))
    all_goals (try (first | with_reducible refine wa_id ?_ | exact True.intro | omega | exact away_fn _ _ _ (sqS v wt x y) so hm vb.1 so2.2.2.2.2.1 | exact away_fn _ _ _ (sqS v wt x y) so hm vb.2.1 so2.2.2.2.2.2.1 | exact away_fn _ _ _ (sqS v wt x y) so hm vb.2.2.1 so2.2.2.2.2.2.2))
    refine WA_seq (x := (fcd Tryz.f32 [1, 1, 1, 1, 1, 1, 0])) (y := (fcd Tryz.f32 [1, 1, 1, 1, 1, 1, 1])) ?_
    refine V_draw Γ [] [0, 1, 2, 6, 7, 8, 9, 10, 17] mixed (by kernel_rfl) (evs ?_)
    all_goals (try with_reducible (repeat' (first | apply And.intro | intro _)))
    all_goals (try (first | with_reducible refine wa_id ?_ | exact True.intro | omega | exact away_fn _ _ _ (sqS v wt x y) so hm vb.1 so2.2.2.2.2.1 | exact away_fn _ _ _ (sqS v wt x y) so hm vb.2.1 so2.2.2.2.2.2.1 | exact away_fn _ _ _ (sqS v wt x y) so hm vb.2.2.1 so2.2.2.2.2.2.2))
    refine V_ret (evs ?_)
    first | exact pe (p := zP) (sh1 hc) | exact pe (sh2 hc)

end Go.S16

