import Derived.Test.YtdillkdhpalgcaaGreatG1
import Derived.Test.YtdillkdhpalgcaaGreatE1
import Derived.Test.YtdillkdhpalgcaaGreatB3
set_option linter.unusedSimpArgs false
set_option linter.unusedVariables false
set_option linter.unusedSimpArgs false
set_option linter.unusedVariables false
namespace Go.S16
open Go.RowKit Go.Proofs Go.Eng Go.Rect
theorem runit_fn (a : Int) : Eng.Fn Tryz.prog 53 [.i a] (.dat (.i (unitI a))) := by
  refine Eng.Fn.by (fn := Tryz.f53) 5 [.tmp 2] Tryz.func53 rfl Tryz.ntmps53 rfl (by simp) fun w0 G0 => ?_
  refine WA_seq (x := (fcd Tryz.f53 [0])) (y := (fcd Tryz.f53 [1])) ?_
  refine V_regionX Γ Δ [] [0, 2] (evs ?_)
  all_goals (try with_reducible (repeat' (first | apply And.intro | intro _)))
  all_goals (try (first | with_reducible refine wa_id ?_ | exact True.intro | omega))
  refine WA_seq (x := (fcd Tryz.f53 [1, 0])) (y := (fcd Tryz.f53 [1, 1])) ?_
  refine V_regionX Γ Δ [] [0, 2] (evs ?_)
  all_goals (try with_reducible (repeat' (first | apply And.intro | intro _)))
  all_goals (try (first | with_reducible refine wa_id ?_ | exact True.intro | exact rclamp_fn _ _ _ | omega))
  refine V_ret (evs ?_)
  rfl

theorem rluma_fn (p : Px) : Eng.Fn Tryz.prog 86 [pxD p] (.dat (.i (lumI p))) := by
  have ur : 0 ≤ (limP p).r ∧ (limP p).r ≤ 65535 := unit_bd p.r
  have ug : 0 ≤ (limP p).g ∧ (limP p).g ≤ 65535 := unit_bd p.g
  have ub : 0 ≤ (limP p).b ∧ (limP p).b ≤ 65535 := unit_bd p.b
  refine Eng.Fn.by (fn := Tryz.f86) 17 [.tmp 2] Tryz.func86 rfl Tryz.ntmps86 rfl (by simp) fun w0 G0 => ?_
  refine WA_seq (x := (fcd Tryz.f86 [0])) (y := (fcd Tryz.f86 [1])) ?_
  refine V_regionX Γ Δ [] [0, 1, 2] (evs ?_)
  all_goals (try with_reducible (repeat' (first | apply And.intro | intro _)))
  all_goals (try (first | with_reducible refine wa_id ?_ | exact True.intro | omega))
  refine WA_seq (x := (fcd Tryz.f86 [1, 0])) (y := (fcd Tryz.f86 [1, 1])) ?_
  refine V_regionX Γ Δ [] [0, 1, 2] (evs ?_)
  all_goals (try with_reducible (repeat' (first | apply And.intro | intro _)))
  all_goals (try (first | with_reducible refine wa_id ?_ | exact True.intro | exact rlimit_fn _ | omega))
  refine WA_seq (x := (fcd Tryz.f86 [1, 1, 0])) (y := (fcd Tryz.f86 [1, 1, 1])) ?_
  refine V_regionX Γ Δ [] [0, 1, 2] (evs ?_)
  (try simp (maxSteps := 10000000) (disch := omega) only [w64])
  all_goals (try with_reducible (repeat' (first | apply And.intro | intro _)))
  all_goals (try (first | with_reducible refine wa_id ?_ | exact True.intro | exact rdivw_fn _ _ (by omega) (by omega) (by omega) (by omega) | omega))
  refine V_ret (evs ?_)
  first | rfl

theorem ratp_fn (m : Im) (x y : Int) : Eng.Fn Tryz.prog 80 [imD m, .i x, .i y] (.dat (pxD (atP m x y))) := by
  refine Eng.Fn.by (fn := Tryz.f80) 15 [.cell 6 49] Tryz.func80 rfl Tryz.ntmps80 rfl (by simp) fun w0 G0 => ?_
  refine WA_seq (x := (fcd Tryz.f80 [0])) (y := (fcd Tryz.f80 [1])) ?_
  refine V_regionX Γ Δ [] [0, 1, 2, 3, 6, 9] (evs ?_)
  all_goals (try with_reducible (repeat' (first | apply And.intro | intro _)))
  all_goals (try (first | with_reducible refine wa_id ?_ | exact True.intro | omega))
  refine WA_seq (x := (fcd Tryz.f80 [1, 0])) (y := (fcd Tryz.f80 [1, 1])) ?_
  refine WA_seq (x := (fcd Tryz.f80 [1, 0, 0])) (y := (fcd Tryz.f80 [1, 0, 1])) ?_
  refine V_regionX Γ Δ [] [0, 1, 2, 3, 6, 9] (evs ?_)
  all_goals (try with_reducible (repeat' (first | apply And.intro | intro _)))
  all_goals (try (first | with_reducible refine wa_id ?_ | exact True.intro | exact richeck_fn ⟨_, _, _⟩ | omega))
  refine V_cond (evs ?_)
  refine ⟨fun hc => ?_, fun hc => ?_⟩
  · refine WA_seq (x := (fcd Tryz.f80 [1, 0, 1, 0, 0])) (y := (fcd Tryz.f80 [1, 0, 1, 0, 1])) ?_
    refine V_regionX Γ Δ [] [0, 1, 2, 3, 6, 9] (evs ?_)
    all_goals (try with_reducible (repeat' (first | apply And.intro | intro _)))
    all_goals (try (first | with_reducible refine wa_id ?_ | exact True.intro | omega))
    refine V_ret (evs ?_)
    first | exact pe (p := zP) (at_0 hc) | exact pe (at_1 hm)
  · refine WA_skip ?_
    refine WA_seq (x := (fcd Tryz.f80 [1, 1, 0])) (y := (fcd Tryz.f80 [1, 1, 1])) ?_
    refine V_regionX Γ Δ [] [0, 1, 2, 3, 6, 9] (evs ?_)
    have hm := hc
    all_goals (try with_reducible (repeat' (first | apply And.intro | intro _)))
    all_goals (try (first | with_reducible refine wa_id ?_ | exact True.intro | exact pickp_fn ⟨_, _, _⟩ _ _ hm | omega))
    refine V_ret (evs ?_)
    first | exact pe (p := zP) (at_0 hc) | exact pe (at_1 hm)

set_option maxHeartbeats 2000000 in
set_option maxRecDepth 100000 in
theorem rpixel_fn (i : Im) (o : Pt) (bd : Rc) (x y : Int) (hv : VIn ⟨i, o, bd, 0, [], 0⟩ x y) : Eng.Fn Tryz.prog 47 [rvD i o bd, .i x, .i y] (.dat (pxD (pixF ⟨i, o, bd, 0, [], 0⟩ x y))) := by
  have hb := hv.2.1
  have hx := hv.2.2.1
  have hy := hv.2.2.2
  have bx := cx_bd hb x
  have by_ := cy_bd hb y
  have hz := (ichk0 hv.1).1
  unfold Z0 at hz
  have hb2 := hb
  unfold BdOk at hb2
  have ex : clampI x bd.x (bd.x + bd.w - 1) = cxI ⟨i, o, bd, 0, [], 0⟩ x := cl_x hb x
  have ey : clampI y bd.y (bd.y + bd.h - 1) = cyI ⟨i, o, bd, 0, [], 0⟩ y := cl_y hb y
  have ea : atP i (cxI ⟨i, o, bd, 0, [], 0⟩ x - o.x) (cyI ⟨i, o, bd, 0, [], 0⟩ y - o.y) = pixF ⟨i, o, bd, 0, [], 0⟩ x y := (at_i hv.1 _ _).trans (at_px hv)
  simp only at hx hy hb2 hz
  refine Eng.Fn.by (fn := Tryz.f47) 46 [.cell 6 49] Tryz.func47 rfl Tryz.ntmps47 rfl (by simp) fun w0 G0 => ?_
  refine WA_seq (x := (fcd Tryz.f47 [0])) (y := (fcd Tryz.f47 [1])) ?_
  refine V_regionX Γ Δ [] [0, 1, 2, 3, 6] (evs ?_)
  all_goals (try with_reducible (repeat' (first | apply And.intro | intro _)))
  all_goals (try (first | with_reducible refine wa_id ?_ | exact True.intro | omega))
  refine WA_seq (x := (fcd Tryz.f47 [1, 0])) (y := (fcd Tryz.f47 [1, 1])) ?_
  refine V_regionX Γ Δ [] [0, 1, 2, 3, 6] (evs ?_)
  (try simp (maxSteps := 10000000) (disch := omega) only [w64])
  all_goals (try with_reducible (repeat' (first | apply And.intro | intro _)))
  all_goals (try (first | with_reducible refine wa_id ?_ | exact True.intro | exact rclamp_fn _ _ _ | omega))
  simp only [ex]
  refine WA_seq (x := (fcd Tryz.f47 [1, 1, 0])) (y := (fcd Tryz.f47 [1, 1, 1])) ?_
  refine V_regionX Γ Δ [] [0, 1, 2, 3, 6] (evs ?_)
  (try simp (maxSteps := 10000000) (disch := omega) only [w64])
  all_goals (try with_reducible (repeat' (first | apply And.intro | intro _)))
  all_goals (try (first | with_reducible refine wa_id ?_ | exact True.intro | exact rclamp_fn _ _ _ | omega))
  simp only [ey]
  refine WA_seq (x := (fcd Tryz.f47 [1, 1, 1, 0])) (y := (fcd Tryz.f47 [1, 1, 1, 1])) ?_
  refine V_regionX Γ Δ [] [0, 1, 2, 3, 6] (evs ?_)
  (try simp (maxSteps := 10000000) (disch := omega) only [w64])
  all_goals (try with_reducible (repeat' (first | apply And.intro | intro _)))
  all_goals (try (first | with_reducible refine wa_id ?_ | exact True.intro | exact ratp_fn ⟨_, _, _⟩ _ _ | omega))
  simp only [ea]
  refine V_ret (evs ?_)
  first | exact True.intro | rfl | exact ⟨rfl, rfl, rfl, rfl⟩

set_option maxRecDepth 100000 in
theorem radd_fn (s : Sm) (p : Px) (w : Int) (hs : SmOk s) (hp : validP p = true) (hw : 0 ≤ w) (hb : s.w + w ≤ 268435456) : Eng.Fn Tryz.prog 82 [rsD s, pxD p, .i w] (.dat (rsD (addS s p w))) := by
  obtain ⟨hs2, m, m1, m2, m3⟩ := add_ok hs hp hw hb
  have vb := vP_bd hp
  unfold SmOk at hs
  have w0 : w ≤ 268435456 := by omega
  have k1 := mulW ⟨hw, w0⟩ vb.1
  have k2 := mulW ⟨hw, w0⟩ vb.2.1
  have k3 := mulW ⟨hw, w0⟩ vb.2.2.1
  have c1 := mul_c w p.a p.r
  have c2 := mul_c w p.a p.g
  have c3 := mul_c w p.a p.b
  refine Eng.Fn.by (fn := Tryz.f82) 60 [.cell 6 73] Tryz.func82 rfl Tryz.ntmps82 rfl (by simp) fun w0 G0 => ?_
  refine WA_seq (x := (fcd Tryz.f82 [0])) (y := (fcd Tryz.f82 [1])) ?_
  refine V_regionX Γ Δ [] [0, 1, 2, 3, 4, 6] (evs ?_)
  all_goals (try with_reducible (repeat' (first | apply And.intro | intro _)))
  all_goals (try (first | with_reducible refine wa_id ?_ | exact True.intro | omega))
  refine WA_seq (x := (fcd Tryz.f82 [1, 0])) (y := (fcd Tryz.f82 [1, 1])) ?_
  refine V_regionX Γ Δ [] [0, 1, 2, 3, 4, 6] (evs ?_)
  (try simp (maxSteps := 10000000) (disch := omega) only [w64])
  all_goals (try with_reducible (repeat' (first | apply And.intro | intro _)))
  all_goals (try (first | with_reducible refine wa_id ?_ | exact True.intro | omega))
  refine WA_seq (x := (fcd Tryz.f82 [1, 1, 0])) (y := (fcd Tryz.f82 [1, 1, 1])) ?_
  refine V_regionX Γ Δ [] [0, 1, 2, 3, 4, 6] (evs ?_)
  (try simp (maxSteps := 10000000) (disch := omega) only [w64])
  all_goals (try with_reducible (repeat' (first | apply And.intro | intro _)))
  all_goals (try (first | with_reducible refine wa_id ?_ | exact True.intro | omega))
  refine WA_seq (x := (fcd Tryz.f82 [1, 1, 1, 0])) (y := (fcd Tryz.f82 [1, 1, 1, 1])) ?_
  refine V_regionX Γ Δ [] [0, 1, 2, 3, 4, 6] (evs ?_)
  (try simp (maxSteps := 10000000) (disch := omega) only [w64, c1])
  all_goals (try with_reducible (repeat' (first | apply And.intro | intro _)))
  all_goals (try (first | with_reducible refine wa_id ?_ | exact True.intro | omega))
  refine WA_seq (x := (fcd Tryz.f82 [1, 1, 1, 1, 0])) (y := (fcd Tryz.f82 [1, 1, 1, 1, 1])) ?_
  refine V_regionX Γ Δ [] [0, 1, 2, 3, 4, 6] (evs ?_)
  (try simp (maxSteps := 10000000) (disch := omega) only [w64, c2])
  all_goals (try with_reducible (repeat' (first | apply And.intro | intro _)))
  all_goals (try (first | with_reducible refine wa_id ?_ | exact True.intro | omega))
  refine WA_seq (x := (fcd Tryz.f82 [1, 1, 1, 1, 1, 0])) (y := (fcd Tryz.f82 [1, 1, 1, 1, 1, 1])) ?_
  refine V_regionX Γ Δ [] [0, 1, 2, 3, 4, 6] (evs ?_)
  (try simp (maxSteps := 10000000) (disch := omega) only [w64, c3])
  all_goals (try with_reducible (repeat' (first | apply And.intro | intro _)))
  all_goals (try (first | with_reducible refine wa_id ?_ | exact True.intro | omega))
  refine WA_seq (x := (fcd Tryz.f82 [1, 1, 1, 1, 1, 1, 0])) (y := (fcd Tryz.f82 [1, 1, 1, 1, 1, 1, 1])) ?_
  refine V_regionX Γ Δ [] [0, 1, 2, 3, 4, 6] (evs ?_)
  all_goals (try with_reducible (repeat' (first | apply And.intro | intro _)))
  all_goals (try (first | with_reducible refine wa_id ?_ | exact True.intro | omega))
  refine V_ret (evs ?_)
  all_goals (first | rfl | exact ⟨rfl, rfl, rfl, rfl, rfl⟩)

theorem rmean_fn (s : Sm) (hs : SmOk s) : Eng.Fn Tryz.prog 49 [rsD s] (.dat (pxD (meanS s))) := by
  unfold SmOk at hs
  refine Eng.Fn.by (fn := Tryz.f49) 39 [.cell 2 49] Tryz.func49 rfl Tryz.ntmps49 rfl (by simp) fun w0 G0 => ?_
  refine WA_seq (x := (fcd Tryz.f49 [0])) (y := (fcd Tryz.f49 [1])) ?_
  refine V_regionX Γ Δ [] [0, 1, 2, 13] (evs ?_)
  all_goals (try with_reducible (repeat' (first | apply And.intro | intro _)))
  all_goals (try (first | with_reducible refine wa_id ?_ | exact True.intro | omega))
  refine WA_seq (x := (fcd Tryz.f49 [1, 0])) (y := (fcd Tryz.f49 [1, 1])) ?_
  refine WA_seq (x := (fcd Tryz.f49 [1, 0, 0])) (y := (fcd Tryz.f49 [1, 0, 1])) ?_
  refine V_regionX Γ Δ [] [0, 1, 2, 13] (evs ?_)
  all_goals (try with_reducible (repeat' (first | apply And.intro | intro _)))
  all_goals (try (first | with_reducible refine wa_id ?_ | exact True.intro | exact rdivw_fn _ _ (by omega) (by omega) (by omega) (by omega) | omega))
  refine V_cond (evs ?_)
  refine ⟨fun hc => ?_, fun hc => ?_⟩
  · refine WA_seq (x := (fcd Tryz.f49 [1, 0, 1, 0, 0])) (y := (fcd Tryz.f49 [1, 0, 1, 0, 1])) ?_
    refine V_regionX Γ Δ [] [0, 1, 2, 13] (evs ?_)
    all_goals (try with_reducible (repeat' (first | apply And.intro | intro _)))
    all_goals (try (first | with_reducible refine wa_id ?_ | exact True.intro | omega))
    refine V_ret (evs ?_)
    first | exact pe (p := zP) (mr_1 hc) | exact pe (mn3 hc.1 hc.2)
  · refine WA_skip ?_
    refine WA_seq (x := (fcd Tryz.f49 [1, 1, 0])) (y := (fcd Tryz.f49 [1, 1, 1])) ?_
    refine V_draw Γ [] [0, 1, 2, 13] mixed (by kernel_rfl) (evs ?_)
    all_goals (try with_reducible (repeat' (first | apply And.intro | intro _)))
    all_goals (try (first | with_reducible refine wa_id ?_ | exact True.intro | exact rdivw_fn _ _ (by omega) (by omega) (by omega) (by omega) | omega))
    refine V_ret (evs ?_)
    first | exact pe (p := zP) (mr_1 hc) | exact pe (mn3 hc.1 hc.2)

end Go.S16

