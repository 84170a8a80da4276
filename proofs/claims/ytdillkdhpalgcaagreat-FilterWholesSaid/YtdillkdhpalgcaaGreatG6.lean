import Derived.Test.YtdillkdhpalgcaaGreatLJ
import Derived.Test.YtdillkdhpalgcaaGreatG1
import Derived.Test.YtdillkdhpalgcaaGreatG3
set_option linter.unusedSimpArgs false
set_option linter.unusedVariables false
set_option linter.unusedSimpArgs false
set_option linter.unusedVariables false
namespace Go.S16
open Go.RowKit Go.Proofs Go.Eng Go.Rect
theorem rvluma_fn (i : Im) (o : Pt) (bd : Rc) (x y : Int) (hv : VIn ⟨i, o, bd, 0, [], 0⟩ x y) : Eng.Fn Tryz.prog 54 [rvD i o bd, .i x, .i y] (.dat (.i (lumF ⟨i, o, bd, 0, [], 0⟩ x y))) := by
  refine Eng.Fn.by (fn := Tryz.f54) 12 [.tmp 6] Tryz.func54 rfl Tryz.ntmps54 rfl (by simp) fun w0 G0 => ?_
  refine WA_seq (x := (fcd Tryz.f54 [0])) (y := (fcd Tryz.f54 [1])) ?_
  refine V_regionX Γ Δ [] [0, 1, 2, 3, 6] (evs ?_)
  all_goals (try with_reducible (repeat' (first | apply And.intro | intro _)))
  all_goals (try (first | with_reducible refine wa_id ?_ | exact True.intro | omega))
  refine WA_seq (x := (fcd Tryz.f54 [1, 0])) (y := (fcd Tryz.f54 [1, 1])) ?_
  refine V_regionX Γ Δ [] [0, 1, 2, 3, 6] (evs ?_)
  all_goals (try with_reducible (repeat' (first | apply And.intro | intro _)))
  all_goals (try (first | with_reducible refine wa_id ?_ | exact True.intro | exact rpixel_fn ⟨_, _, _⟩ ⟨_, _⟩ ⟨_, _, _, _⟩ _ _ (by assumption) | exact rluma_fn ⟨_, _, _, _⟩ | omega))
  refine V_ret (evs ?_)
  first | rfl

set_option maxHeartbeats 4000000 in
set_option maxRecDepth 100000 in
theorem redge_fn (i : Im) (o : Pt) (bd : Rc) (x y : Int) (hv : EdH ⟨i, o, bd, 0, [], 0⟩ x y) : Eng.Fn Tryz.prog 52 [rvD i o bd, .i x, .i y] (.dat (.i (unitI (hypI (edgX ⟨i, o, bd, 0, [], 0⟩ x y) (edgY ⟨i, o, bd, 0, [], 0⟩ x y))))) := by
  obtain ⟨e1, e2, e3, e4w, e5, e6, e7, e8, e9⟩ := ed_in hv
  have hx := hv.1
  have l00 := lumF_bd ⟨i, o, bd, 0, [], 0⟩ (x + 1) (y + 1)
  have l01 := lumF_bd ⟨i, o, bd, 0, [], 0⟩ (x + 1) (y - 1)
  have l10 := lumF_bd ⟨i, o, bd, 0, [], 0⟩ (x - 1) (y + 1)
  have l11 := lumF_bd ⟨i, o, bd, 0, [], 0⟩ (x - 1) (y - 1)
  have l22 := lumF_bd ⟨i, o, bd, 0, [], 0⟩ (x + 1) y
  have l23 := lumF_bd ⟨i, o, bd, 0, [], 0⟩ (x - 1) y
  have l24 := lumF_bd ⟨i, o, bd, 0, [], 0⟩ x (y + 1)
  have l25 := lumF_bd ⟨i, o, bd, 0, [], 0⟩ x (y - 1)
  refine Eng.Fn.by (fn := Tryz.f52) 95 [.tmp 6] Tryz.func52 rfl Tryz.ntmps52 rfl (by simp) fun w0 G0 => ?_
  refine WA_seq (x := (fcd Tryz.f52 [0])) (y := (fcd Tryz.f52 [1])) ?_
  refine V_regionX Γ Δ [] [0, 1, 2, 3, 6, 7, 8] (evs ?_)
  all_goals (try with_reducible (repeat' (first | apply And.intro | intro _)))
  all_goals (try (first | with_reducible refine wa_id ?_ | exact True.intro | omega))
  refine WA_seq (x := (fcd Tryz.f52 [1, 0])) (y := (fcd Tryz.f52 [1, 1])) ?_
  refine V_draw Γ [] [0, 1, 2, 3, 6, 7, 8] mixed (by kernel_rfl) (evs ?_)
  (try simp (maxSteps := 10000000) (disch := omega) only [w64])
  all_goals (try with_reducible (repeat' (first | apply And.intro | intro _)))
  all_goals (try (first | with_reducible refine wa_id ?_ | exact True.intro | exact rvluma_fn ⟨_, _, _⟩ ⟨_, _⟩ ⟨_, _, _, _⟩ _ _ (by assumption) | omega))
  simp only [edx_e]
  refine WA_seq (x := (fcd Tryz.f52 [1, 1, 0])) (y := (fcd Tryz.f52 [1, 1, 1])) ?_
  refine V_draw Γ [] [0, 1, 2, 3, 6, 7, 8] mixed (by kernel_rfl) (evs ?_)
  (try simp (maxSteps := 10000000) (disch := omega) only [w64])
  all_goals (try with_reducible (repeat' (first | apply And.intro | intro _)))
  all_goals (try (first | with_reducible refine wa_id ?_ | exact True.intro | exact rvluma_fn ⟨_, _, _⟩ ⟨_, _⟩ ⟨_, _, _, _⟩ _ _ (by assumption) | omega))
  simp only [edy_e]
  refine WA_seq (x := (fcd Tryz.f52 [1, 1, 1, 0])) (y := (fcd Tryz.f52 [1, 1, 1, 1])) ?_
  refine V_regionX Γ Δ [] [0, 1, 2, 3, 6, 7, 8] (evs ?_)
  have gbx := edgX_bd ⟨i, o, bd, 0, [], 0⟩ x y
  have gby := edgY_bd ⟨i, o, bd, 0, [], 0⟩ x y
  all_goals (try with_reducible (repeat' (first | apply And.intro | intro _)))
  all_goals (try (first | with_reducible refine wa_id ?_ | exact True.intro | exact rhypot_fn _ _ (by omega) (by omega) (by omega) (by omega) | exact runit_fn _ | omega))
  refine V_ret (evs ?_)
  first | exact True.intro | rfl

theorem rsharp_fn (c s a am : Int) (ha : 0 ≤ a ∧ a ≤ 17592186044416) (hm : 0 ≤ am ∧ am ≤ 262140) (hc : 0 ≤ c ∧ c ≤ 65535) (hs : 0 ≤ s ∧ s ≤ 65535 * a) : Eng.Fn Tryz.prog 50 [.i c, .i s, .i a, .i am] (.dat (.i (awayI am c s a))) := by
  have hq := aw_bd hc ha.1 hs
  have hp := aw_mul hm hc hq
  have hd := dv_bd hp
  refine Eng.Fn.by (fn := Tryz.f50) 20 [.tmp 8] Tryz.func50 rfl Tryz.ntmps50 rfl (by simp) fun w0 G0 => ?_
  refine WA_seq (x := (fcd Tryz.f50 [0])) (y := (fcd Tryz.f50 [1])) ?_
  refine V_regionX Γ Δ [] [0, 1, 2, 3, 8] (evs ?_)
  all_goals (try with_reducible (repeat' (first | apply And.intro | intro _)))
  all_goals (try (first | with_reducible refine wa_id ?_ | exact True.intro | omega))
  refine WA_seq (x := (fcd Tryz.f50 [1, 0])) (y := (fcd Tryz.f50 [1, 1])) ?_
  refine V_regionX Γ Δ [] [0, 1, 2, 3, 8] (evs ?_)
  (try simp (maxSteps := 10000000) (disch := omega) only [w64])
  all_goals (try with_reducible (repeat' (first | apply And.intro | intro _)))
  all_goals (try (first | with_reducible refine wa_id ?_ | exact True.intro | exact rdivw_fn _ _ (by omega) (by omega) (by omega) (by omega) | exact runit_fn _ | omega))
  refine V_ret (evs ?_)
  first | rfl

end Go.S16

set_option linter.unusedSimpArgs false
set_option linter.unusedVariables false
namespace Go.S16
open Go.RowKit Go.Proofs Go.Eng Go.Rect
set_option maxHeartbeats 4000000 in
set_option maxRecDepth 100000 in
theorem rmotion_fn (i : Im) (o : Pt) (bd : Rc) (x y dx dy : Int) (hv : MtH ⟨i, o, bd, 0, [dx, dy], 0⟩ x y) : Eng.Fn Tryz.prog 55 [rvD i o bd, .i x, .i y, .i dx, .i dy] (.dat (pxD (motF ⟨i, o, bd, 0, [dx, dy], 0⟩ x y))) := by
  have hd : -16 ≤ dx ∧ dx ≤ 16 := hv.2.1
  have he : -16 ≤ dy ∧ dy ≤ 16 := hv.2.2.1
  have hx := hv.2.2.2.1
  have n0 := motN_0 ⟨i, o, bd, 0, [dx, dy], 0⟩
  have en : max (max (max dx (0 - dx)) dy) (0 - dy) = motN ⟨i, o, bd, 0, [dx, dy], 0⟩ := by rw [mtn_e]; omega
  have n1 : motN ⟨i, o, bd, 0, [dx, dy], 0⟩ ≤ 16 := by omega
  refine Eng.Fn.by (fn := Tryz.f55) 47 [.cell 10 49] Tryz.func55 rfl Tryz.ntmps55 rfl (by simp) fun w0 G0 => ?_
  refine WA_seq (x := (fcd Tryz.f55 [0])) (y := (fcd Tryz.f55 [1])) ?_
  refine V_regionX Γ Δ [] [0, 1, 2, 3, 4, 5, 10, 11, 12, 13, 24] (evs ?_)
  all_goals (try with_reducible (repeat' (first | apply And.intro | intro _)))
  all_goals (try (first | with_reducible refine wa_id ?_ | exact True.intro | omega | exact radd_fn _ _ _ so vp (by omega) (by omega) | exact radd_fn (motK ⟨i, o, bd, 0, [dx, dy], 0⟩ x y k) _ 1 so vp (by omega) (by omega)))
  refine WA_seq (x := (fcd Tryz.f55 [1, 0])) (y := (fcd Tryz.f55 [1, 1])) ?_
  refine V_regionX Γ Δ [] [0, 1, 2, 3, 4, 5, 10, 11, 12, 13, 24] (evs ?_)
  (try simp (maxSteps := 10000000) (disch := omega) only [w64])
  all_goals (try with_reducible (repeat' (first | apply And.intro | intro _)))
  all_goals (try (first | with_reducible refine wa_id ?_ | exact True.intro | omega | exact radd_fn _ _ _ so vp (by omega) (by omega) | exact radd_fn (motK ⟨i, o, bd, 0, [dx, dy], 0⟩ x y k) _ 1 so vp (by omega) (by omega)))
  simp only [en]
  refine WA_seq (x := (fcd Tryz.f55 [1, 1, 0])) (y := (fcd Tryz.f55 [1, 1, 1])) ?_
  refine V_regionX Γ Δ [] [0, 1, 2, 3, 4, 5, 10, 11, 12, 13, 24] (evs ?_)
  all_goals (try with_reducible (repeat' (first | apply And.intro | intro _)))
  all_goals (try (first | with_reducible refine wa_id ?_ | exact True.intro | omega | exact radd_fn _ _ _ so vp (by omega) (by omega) | exact radd_fn (motK ⟨i, o, bd, 0, [dx, dy], 0⟩ x y k) _ 1 so vp (by omega) (by omega)))
  refine WA_seq (x := (fcd Tryz.f55 [1, 1, 1, 0])) (y := (fcd Tryz.f55 [1, 1, 1, 1])) ?_
  refine WA_seq (x := (fcd Tryz.f55 [1, 1, 1, 0, 0])) (y := (fcd Tryz.f55 [1, 1, 1, 0, 1])) ?_
  refine V_regionX Γ Δ [] [0, 1, 2, 3, 4, 5, 10, 11, 12, 13, 24] (evs ?_)
  all_goals (try with_reducible (repeat' (first | apply And.intro | intro _)))
  all_goals (try (first | with_reducible refine wa_id ?_ | exact True.intro | omega | exact radd_fn _ _ _ so vp (by omega) (by omega) | exact radd_fn (motK ⟨i, o, bd, 0, [dx, dy], 0⟩ x y k) _ 1 so vp (by omega) (by omega)))
  refine WA_block (c := (fcd Tryz.f55 [1, 1, 1, 0, 1, 0])) ?_
  refine V_loop (c := (fcd Tryz.f55 [1, 1, 1, 0, 1, 0, 0])) (α := Nat) [13, 24] [12, 13400, 13401, 13402, 13403, 14100, 14101, 14102, 14103, 14300, 14301, 14302, 14303, 14400, 14401, 14402, 14403] (fun k => [(13, .dat (.i (k : Int)))]) (fun k => [(12, some (true, .box 73 [.dat (.i (motK ⟨i, o, bd, 0, [dx, dy], 0⟩ x y k).w), .dat (.i (motK ⟨i, o, bd, 0, [dx, dy], 0⟩ x y k).a), .dat (.i (motK ⟨i, o, bd, 0, [dx, dy], 0⟩ x y k).r), .dat (.i (motK ⟨i, o, bd, 0, [dx, dy], 0⟩ x y k).g), .dat (.i (motK ⟨i, o, bd, 0, [dx, dy], 0⟩ x y k).b)]))]) (fun k => (k : Int) ≤ motN ⟨i, o, bd, 0, [dx, dy], 0⟩ + 1) (fun k => (motN ⟨i, o, bd, 0, [dx, dy], 0⟩ + 1).toNat - k) 0 [] ?_ (evs ?_) ?_
  · show (0 : Int) ≤ _; omega
  · (try with_reducible (repeat' (first | apply And.intro | intro _)))
    all_goals (first | exact True.intro | omega | (first | rfl | (simp; done)))
  · intro k hK
    refine WA_seq (x := (fcd Tryz.f55 [1, 1, 1, 0, 1, 0, 0, 0])) (y := (fcd Tryz.f55 [1, 1, 1, 0, 1, 0, 0, 1])) ?_
    refine WA_seq (x := (fcd Tryz.f55 [1, 1, 1, 0, 1, 0, 0, 0, 0])) (y := (fcd Tryz.f55 [1, 1, 1, 0, 1, 0, 0, 0, 1])) ?_
    refine V_regionX Γ Δ [] [0, 1, 2, 3, 4, 5, 10, 11, 12, 13, 24] (evs ?_)
    all_goals (try with_reducible (repeat' (first | apply And.intro | intro _)))
    all_goals (try (first | with_reducible refine wa_id ?_ | exact True.intro | omega | exact radd_fn _ _ _ so vp (by omega) (by omega) | exact radd_fn (motK ⟨i, o, bd, 0, [dx, dy], 0⟩ x y k) _ 1 so vp (by omega) (by omega)))
    refine V_cond (evs ?_)
    refine ⟨fun hc => ?_, fun hc => ?_⟩
    · refine WA_skip ?_
      refine WA_seq (x := (fcd Tryz.f55 [1, 1, 1, 0, 1, 0, 0, 1, 0])) (y := (fcd Tryz.f55 [1, 1, 1, 0, 1, 0, 0, 1, 1])) ?_
      refine WA_block (c := (fcd Tryz.f55 [1, 1, 1, 0, 1, 0, 0, 1, 0, 0])) ?_
      refine V_draw Γ [] [0, 1, 2, 3, 4, 5, 10, 11, 12, 13, 24] mixed (by kernel_rfl) (evs ?_)
      have kb0 := way_bd (k := k) (d := dx) (by omega) hd
      have kb1 := way_bd (k := k) (d := dy) (by omega) he
      have hkn : (k : Int) ≤ motN ⟨i, o, bd, 0, [dx, dy], 0⟩ := by omega
      have dw0 := div_way (k := (k : Int)) (d := dx) (n := motN ⟨i, o, bd, 0, [dx, dy], 0⟩) (by omega) (by omega)
      have dw1w := div_way (k := (k : Int)) (d := dy) (n := motN ⟨i, o, bd, 0, [dx, dy], 0⟩) (by omega) (by omega)
      have vi : VIn ⟨i, o, bd, 0, [], 0⟩ (x + divI ((k : Int) * dx) (motN ⟨i, o, bd, 0, [dx, dy], 0⟩)) (y + divI ((k : Int) * dy) (motN ⟨i, o, bd, 0, [dx, dy], 0⟩)) := mt_in hv hkn
      have vp := pix_ok vi
      have so := mt_ok hv k (by omega)
      have sw := motK_w ⟨i, o, bd, 0, [dx, dy], 0⟩ x y k
      (try simp (maxSteps := 10000000) (disch := omega) only [w64])
      all_goals (try with_reducible (repeat' (first | apply And.intro | intro _)))
      all_goals (try (first | with_reducible refine wa_id ?_ | exact True.intro | exact rdivw_fn _ _ (by omega) (by omega) (by omega) (by omega) | exact rpixel_fn ⟨_, _, _⟩ ⟨_, _⟩ ⟨_, _, _, _⟩ _ _ (by assumption) | exact radd_fn ⟨_, _, _, _, _⟩ ⟨_, _, _, _⟩ _ (by assumption) (by assumption) (by first | assumption | omega) (by first | assumption | omega) | omega | exact radd_fn _ _ _ so vp (by omega) (by omega) | exact radd_fn (motK ⟨i, o, bd, 0, [dx, dy], 0⟩ x y k) _ 1 so vp (by omega) (by omega)))
      refine V_regionX Γ Δ [] [0, 1, 2, 3, 4, 5, 10, 11, 12, 13, 24] (evs ?_)
      all_goals (try with_reducible (repeat' (first | apply And.intro | intro _)))
      all_goals (try (first | with_reducible refine wa_id ?_ | exact True.intro | omega | exact radd_fn _ _ _ so vp (by omega) (by omega) | exact radd_fn (motK ⟨i, o, bd, 0, [dx, dy], 0⟩ x y k) _ 1 so vp (by omega) (by omega)))
      refine V_next [] (k + 1) (evs ?_) ?_ ?_
      all_goals (try with_reducible (repeat' (first | apply And.intro | intro _)))
      all_goals (first | exact True.intro | omega | (first | (push_cast; omega) | exact w64l (n := 64) (by omega) (by omega) | (rw [motK_succ, motP]; rfl)))
    · refine V_exit (evs ?_)
      refine WA_seq (x := (fcd Tryz.f55 [1, 1, 1, 1, 0])) (y := (fcd Tryz.f55 [1, 1, 1, 1, 1])) ?_
      refine V_regionX Γ Δ [] [0, 1, 2, 3, 4, 5, 10, 11, 12, 13, 24] (evs ?_)
      have ek : k = (motN ⟨i, o, bd, 0, [dx, dy], 0⟩).toNat + 1 := by omega
      subst ek
      have so := mt_ok hv ((motN ⟨i, o, bd, 0, [dx, dy], 0⟩).toNat + 1) (by omega)
      all_goals (try with_reducible (repeat' (first | apply And.intro | intro _)))
      all_goals (try (first | with_reducible refine wa_id ?_ | exact True.intro | exact rmean_fn ⟨_, _, _, _, _⟩ (by assumption) | omega | exact radd_fn _ _ _ so vp (by omega) (by omega) | exact radd_fn (motK ⟨i, o, bd, 0, [dx, dy], 0⟩ x y k) _ 1 so vp (by omega) (by omega)))
      refine V_ret (evs ?_)
      first | rfl | exact ⟨rfl, rfl, rfl, rfl⟩

set_option maxHeartbeats 4000000 in
set_option maxRecDepth 100000 in
theorem rblock_fn (i : Im) (o : Pt) (bd : Rc) (x y z : Int) (hv : PgH ⟨i, o, bd, 0, [z], 0⟩ x y) : Eng.Fn Tryz.prog 56 [rvD i o bd, .i x, .i y, .i z] (.dat (pxD (pxlF ⟨i, o, bd, 0, [z], 0⟩ x y))) := by
  have hz : 1 ≤ z ∧ z ≤ 16 := hv.2.1
  have hb := hv.2.2.1
  have hx := hv.2.2.2.1
  have hy := hv.2.2.2.2.1
  have hW := pg_W hv
  have hH := pg_H hv
  simp only [List.getD_cons_zero] at hW hH
  unfold BdOk at hb
  simp only at hb hx hy
  have bx : (pgX ⟨i, o, bd, 0, [z], 0⟩ x) ≤ x ∧ x < (pgX ⟨i, o, bd, 0, [z], 0⟩ x) + z := blk_bd hz.1
  have bw : (pgY ⟨i, o, bd, 0, [z], 0⟩ y) ≤ y ∧ y < (pgY ⟨i, o, bd, 0, [z], 0⟩ y) + z := blk_bd hz.1
  have gx : bd.x ≤ (pgX ⟨i, o, bd, 0, [z], 0⟩ x) := blk_ge hz.1 hx.1
  have gy : bd.y ≤ (pgY ⟨i, o, bd, 0, [z], 0⟩ y) := blk_ge hz.1 hy.1
  have ex := blk_q (b := bd.x) (x := x) hz.1 hx.1
  have ey := blk_q (b := bd.y) (x := y) hz.1 hy.1
  have ex2 : bd.x + (x - bd.x) / z * z = (pgX ⟨i, o, bd, 0, [z], 0⟩ x) := rfl
  have ey2 : bd.y + (y - bd.y) / z * z = (pgY ⟨i, o, bd, 0, [z], 0⟩ y) := rfl
  have ex3 : 0 ≤ (x - bd.x) / z * z ∧ (x - bd.x) / z * z ≤ 2097152 := by omega
  have ey3 : 0 ≤ (y - bd.y) / z * z ∧ (y - bd.y) / z * z ≤ 2097152 := by omega
  have ex4 := ediv_bdx (a := x - bd.x) (z := z) (by omega) (by omega)
  have ey4 := ediv_bdx (a := y - bd.y) (z := z) (by omega) (by omega)
  refine Eng.Fn.by (fn := Tryz.f56) 87 [.cell 8 49] Tryz.func56 rfl Tryz.ntmps56 rfl (by simp) fun w0 G0 => ?_
  refine WA_seq (x := (fcd Tryz.f56 [0])) (y := (fcd Tryz.f56 [1])) ?_
  refine V_regionX Γ Δ [] [0, 1, 2, 3, 4, 8, 9, 10, 11, 12, 13, 57, 76] (evs ?_)
  all_goals (try with_reducible (repeat' (first | apply And.intro | intro _)))
  all_goals (try (first | with_reducible refine wa_id ?_ | exact True.intro | omega | exact radd_fn _ _ _ so vp (by omega) (by omega)))
  refine WA_seq (x := (fcd Tryz.f56 [1, 0])) (y := (fcd Tryz.f56 [1, 1])) ?_
  refine V_draw Γ [] [0, 1, 2, 3, 4, 8, 9, 10, 11, 12, 13, 57, 76] mixed (by kernel_rfl) (evs ?_)
  (try simp (maxSteps := 10000000) (disch := omega) only [w64, ex])
  all_goals (try with_reducible (repeat' (first | apply And.intro | intro _)))
  all_goals (try (first | with_reducible refine wa_id ?_ | exact True.intro | omega | exact radd_fn _ _ _ so vp (by omega) (by omega)))
  simp only [ex2]
  refine WA_seq (x := (fcd Tryz.f56 [1, 1, 0])) (y := (fcd Tryz.f56 [1, 1, 1])) ?_
  refine V_draw Γ [] [0, 1, 2, 3, 4, 8, 9, 10, 11, 12, 13, 57, 76] mixed (by kernel_rfl) (evs ?_)
  (try simp (maxSteps := 10000000) (disch := omega) only [w64, ey])
  all_goals (try with_reducible (repeat' (first | apply And.intro | intro _)))
  all_goals (try (first | with_reducible refine wa_id ?_ | exact True.intro | omega | exact radd_fn _ _ _ so vp (by omega) (by omega)))
  simp only [ey2]
  refine WA_seq (x := (fcd Tryz.f56 [1, 1, 1, 0])) (y := (fcd Tryz.f56 [1, 1, 1, 1])) ?_
  refine V_regionX Γ Δ [] [0, 1, 2, 3, 4, 8, 9, 10, 11, 12, 13, 57, 76] (evs ?_)
  all_goals (try with_reducible (repeat' (first | apply And.intro | intro _)))
  all_goals (try (first | with_reducible refine wa_id ?_ | exact True.intro | omega | exact radd_fn _ _ _ so vp (by omega) (by omega)))
  refine WA_seq (x := (fcd Tryz.f56 [1, 1, 1, 1, 0])) (y := (fcd Tryz.f56 [1, 1, 1, 1, 1])) ?_
  refine WA_seq (x := (fcd Tryz.f56 [1, 1, 1, 1, 0, 0])) (y := (fcd Tryz.f56 [1, 1, 1, 1, 0, 1])) ?_
  refine V_regionX Γ Δ [] [0, 1, 2, 3, 4, 8, 9, 10, 11, 12, 13, 57, 76] (evs ?_)
  all_goals (try with_reducible (repeat' (first | apply And.intro | intro _)))
  all_goals (try (first | with_reducible refine wa_id ?_ | exact True.intro | omega | exact radd_fn _ _ _ so vp (by omega) (by omega)))
  refine WA_block (c := (fcd Tryz.f56 [1, 1, 1, 1, 0, 1, 0])) ?_
  refine V_loop (c := (fcd Tryz.f56 [1, 1, 1, 1, 0, 1, 0, 0])) (α := Nat) [12, 13, 57, 76] [11, 18300, 18301, 18302, 18303, 18400, 18401, 18402, 18403] (fun m => [(12, .dat (.i ((pgY ⟨i, o, bd, 0, [z], 0⟩ y) + (m : Int))))]) (fun m => [(11, some (true, .box 73 [.dat (.i (pgK ⟨i, o, bd, 0, [z], 0⟩ (pgX ⟨i, o, bd, 0, [z], 0⟩ x) (pgY ⟨i, o, bd, 0, [z], 0⟩ y) (pgW ⟨i, o, bd, 0, [z], 0⟩ x) m 0).w), .dat (.i (pgK ⟨i, o, bd, 0, [z], 0⟩ (pgX ⟨i, o, bd, 0, [z], 0⟩ x) (pgY ⟨i, o, bd, 0, [z], 0⟩ y) (pgW ⟨i, o, bd, 0, [z], 0⟩ x) m 0).a), .dat (.i (pgK ⟨i, o, bd, 0, [z], 0⟩ (pgX ⟨i, o, bd, 0, [z], 0⟩ x) (pgY ⟨i, o, bd, 0, [z], 0⟩ y) (pgW ⟨i, o, bd, 0, [z], 0⟩ x) m 0).r), .dat (.i (pgK ⟨i, o, bd, 0, [z], 0⟩ (pgX ⟨i, o, bd, 0, [z], 0⟩ x) (pgY ⟨i, o, bd, 0, [z], 0⟩ y) (pgW ⟨i, o, bd, 0, [z], 0⟩ x) m 0).g), .dat (.i (pgK ⟨i, o, bd, 0, [z], 0⟩ (pgX ⟨i, o, bd, 0, [z], 0⟩ x) (pgY ⟨i, o, bd, 0, [z], 0⟩ y) (pgW ⟨i, o, bd, 0, [z], 0⟩ x) m 0).b)]))]) (fun m => m ≤ (pgH ⟨i, o, bd, 0, [z], 0⟩ y)) (fun m => (pgH ⟨i, o, bd, 0, [z], 0⟩ y) - m) 0 [] ?_ (evs ?_) ?_
  · exact Nat.zero_le _
  · (try with_reducible (repeat' (first | apply And.intro | intro _)))
    all_goals (first | exact True.intro | omega | (first | rfl | (simp; done)))
  · intro m hM
    refine WA_seq (x := (fcd Tryz.f56 [1, 1, 1, 1, 0, 1, 0, 0, 0])) (y := (fcd Tryz.f56 [1, 1, 1, 1, 0, 1, 0, 0, 1])) ?_
    refine WA_seq (x := (fcd Tryz.f56 [1, 1, 1, 1, 0, 1, 0, 0, 0, 0])) (y := (fcd Tryz.f56 [1, 1, 1, 1, 0, 1, 0, 0, 0, 1])) ?_
    refine V_regionX Γ Δ [] [0, 1, 2, 3, 4, 8, 9, 10, 11, 12, 13, 57, 76] (evs ?_)
    (try simp (maxSteps := 10000000) (disch := omega) only [w64])
    all_goals (try with_reducible (repeat' (first | apply And.intro | intro _)))
    all_goals (try (first | with_reducible refine wa_id ?_ | exact True.intro | omega | exact radd_fn _ _ _ so vp (by omega) (by omega)))
    refine V_cond (evs ?_)
    refine ⟨fun hc => ?_, fun hc => ?_⟩
    · refine WA_skip ?_
      refine WA_seq (x := (fcd Tryz.f56 [1, 1, 1, 1, 0, 1, 0, 0, 1, 0])) (y := (fcd Tryz.f56 [1, 1, 1, 1, 0, 1, 0, 0, 1, 1])) ?_
      refine WA_block (c := (fcd Tryz.f56 [1, 1, 1, 1, 0, 1, 0, 0, 1, 0, 0])) ?_
      refine WA_seq (x := (fcd Tryz.f56 [1, 1, 1, 1, 0, 1, 0, 0, 1, 0, 0, 0])) (y := (fcd Tryz.f56 [1, 1, 1, 1, 0, 1, 0, 0, 1, 0, 0, 1])) ?_
      refine V_regionX Γ Δ [] [0, 1, 2, 3, 4, 8, 9, 10, 11, 12, 13, 57, 76] (evs ?_)
      all_goals (try with_reducible (repeat' (first | apply And.intro | intro _)))
      all_goals (try (first | with_reducible refine wa_id ?_ | exact True.intro | omega | exact radd_fn _ _ _ so vp (by omega) (by omega)))
      refine WA_block (c := (fcd Tryz.f56 [1, 1, 1, 1, 0, 1, 0, 0, 1, 0, 0, 1, 0])) ?_
      refine V_loop (c := (fcd Tryz.f56 [1, 1, 1, 1, 0, 1, 0, 0, 1, 0, 0, 1, 0, 0])) (α := Nat) [13, 76] [11, 18300, 18301, 18302, 18303, 18400, 18401, 18402, 18403] (fun k => [(13, .dat (.i ((pgX ⟨i, o, bd, 0, [z], 0⟩ x) + (k : Int))))]) (fun k => [(11, some (true, .box 73 [.dat (.i (pgK ⟨i, o, bd, 0, [z], 0⟩ (pgX ⟨i, o, bd, 0, [z], 0⟩ x) (pgY ⟨i, o, bd, 0, [z], 0⟩ y) (pgW ⟨i, o, bd, 0, [z], 0⟩ x) m k).w), .dat (.i (pgK ⟨i, o, bd, 0, [z], 0⟩ (pgX ⟨i, o, bd, 0, [z], 0⟩ x) (pgY ⟨i, o, bd, 0, [z], 0⟩ y) (pgW ⟨i, o, bd, 0, [z], 0⟩ x) m k).a), .dat (.i (pgK ⟨i, o, bd, 0, [z], 0⟩ (pgX ⟨i, o, bd, 0, [z], 0⟩ x) (pgY ⟨i, o, bd, 0, [z], 0⟩ y) (pgW ⟨i, o, bd, 0, [z], 0⟩ x) m k).r), .dat (.i (pgK ⟨i, o, bd, 0, [z], 0⟩ (pgX ⟨i, o, bd, 0, [z], 0⟩ x) (pgY ⟨i, o, bd, 0, [z], 0⟩ y) (pgW ⟨i, o, bd, 0, [z], 0⟩ x) m k).g), .dat (.i (pgK ⟨i, o, bd, 0, [z], 0⟩ (pgX ⟨i, o, bd, 0, [z], 0⟩ x) (pgY ⟨i, o, bd, 0, [z], 0⟩ y) (pgW ⟨i, o, bd, 0, [z], 0⟩ x) m k).b)]))]) (fun k => k ≤ (pgW ⟨i, o, bd, 0, [z], 0⟩ x)) (fun k => (pgW ⟨i, o, bd, 0, [z], 0⟩ x) - k) 0 [] ?_ (evs ?_) ?_
      · exact Nat.zero_le _
      · (try with_reducible (repeat' (first | apply And.intro | intro _)))
        all_goals (first | exact True.intro | omega | (first | rfl | (simp; done)))
      · intro k hK
        refine WA_seq (x := (fcd Tryz.f56 [1, 1, 1, 1, 0, 1, 0, 0, 1, 0, 0, 1, 0, 0, 0])) (y := (fcd Tryz.f56 [1, 1, 1, 1, 0, 1, 0, 0, 1, 0, 0, 1, 0, 0, 1])) ?_
        refine WA_seq (x := (fcd Tryz.f56 [1, 1, 1, 1, 0, 1, 0, 0, 1, 0, 0, 1, 0, 0, 0, 0])) (y := (fcd Tryz.f56 [1, 1, 1, 1, 0, 1, 0, 0, 1, 0, 0, 1, 0, 0, 0, 1])) ?_
        refine V_regionX Γ Δ [] [0, 1, 2, 3, 4, 8, 9, 10, 11, 12, 13, 57, 76] (evs ?_)
        (try simp (maxSteps := 10000000) (disch := omega) only [w64])
        all_goals (try with_reducible (repeat' (first | apply And.intro | intro _)))
        all_goals (try (first | with_reducible refine wa_id ?_ | exact True.intro | omega | exact radd_fn _ _ _ so vp (by omega) (by omega)))
        refine V_cond (evs ?_)
        refine ⟨fun hc => ?_, fun hc => ?_⟩
        · refine WA_skip ?_
          refine WA_seq (x := (fcd Tryz.f56 [1, 1, 1, 1, 0, 1, 0, 0, 1, 0, 0, 1, 0, 0, 1, 0])) (y := (fcd Tryz.f56 [1, 1, 1, 1, 0, 1, 0, 0, 1, 0, 0, 1, 0, 0, 1, 1])) ?_
          refine WA_block (c := (fcd Tryz.f56 [1, 1, 1, 1, 0, 1, 0, 0, 1, 0, 0, 1, 0, 0, 1, 0, 0])) ?_
          refine V_draw Γ [] [0, 1, 2, 3, 4, 8, 9, 10, 11, 12, 13, 57, 76] mixed (by kernel_rfl) (evs ?_)
          (try simp (maxSteps := 10000000) (disch := omega) only [w64])
          have hm : m < (pgH ⟨i, o, bd, 0, [z], 0⟩ y) := by omega
          have hk : k < (pgW ⟨i, o, bd, 0, [z], 0⟩ x) := by omega
          have vi : VIn ⟨i, o, bd, 0, [], 0⟩ ((pgX ⟨i, o, bd, 0, [z], 0⟩ x) + k) ((pgY ⟨i, o, bd, 0, [z], 0⟩ y) + m) := pg_in hv hm hk
          have vp := pix_ok vi
          have so := pg_ok hv hm (k := k) (by omega)
          have ow := so.1
          have sw := pg_wb hv (m := m) (k := k) (by omega) (by omega)
          all_goals (try with_reducible (repeat' (first | apply And.intro | intro _)))
          all_goals (try (first | with_reducible refine wa_id ?_ | exact True.intro | exact rpixel_fn ⟨_, _, _⟩ ⟨_, _⟩ ⟨_, _, _, _⟩ _ _ (by assumption) | exact radd_fn ⟨_, _, _, _, _⟩ ⟨_, _, _, _⟩ _ (by assumption) (by assumption) (by first | assumption | omega) (by first | assumption | omega) | omega | exact radd_fn _ _ _ so vp (by omega) (by omega)))
          refine V_regionX Γ Δ [] [0, 1, 2, 3, 4, 8, 9, 10, 11, 12, 13, 57, 76] (evs ?_)
          (try simp (maxSteps := 10000000) (disch := omega) only [w64])
          all_goals (try with_reducible (repeat' (first | apply And.intro | intro _)))
          all_goals (try (first | with_reducible refine wa_id ?_ | exact True.intro | omega | exact radd_fn _ _ _ so vp (by omega) (by omega)))
          refine V_next [] (k + 1) (evs ?_) ?_ ?_
          all_goals (try with_reducible (repeat' (first | apply And.intro | intro _)))
          all_goals (first | exact True.intro | omega | (first | (push_cast; omega) | (rw [pg_succ]; rfl)))
        · refine V_exit (evs ?_)
          refine V_regionX Γ Δ [] [0, 1, 2, 3, 4, 8, 9, 10, 11, 12, 13, 57, 76] (evs ?_)
          (try simp (maxSteps := 10000000) (disch := omega) only [w64])
          all_goals (try with_reducible (repeat' (first | apply And.intro | intro _)))
          all_goals (try (first | with_reducible refine wa_id ?_ | exact True.intro | omega | exact radd_fn _ _ _ so vp (by omega) (by omega)))
          refine V_next [] (m + 1) (evs ?_) ?_ ?_
          all_goals (try with_reducible (repeat' (first | apply And.intro | intro _)))
          all_goals (first | exact True.intro | omega | (first | (push_cast; omega) | (rw [show k = (pgW ⟨i, o, bd, 0, [z], 0⟩ x) from by have hq := andF hc; omega, pg_over]; done)))
    · refine V_exit (evs ?_)
      refine WA_seq (x := (fcd Tryz.f56 [1, 1, 1, 1, 1, 0])) (y := (fcd Tryz.f56 [1, 1, 1, 1, 1, 1])) ?_
      refine V_regionX Γ Δ [] [0, 1, 2, 3, 4, 8, 9, 10, 11, 12, 13, 57, 76] (evs ?_)
      have em : m = (pgH ⟨i, o, bd, 0, [z], 0⟩ y) := by have hq := andF hc; omega
      subst em
      have so := pg_ok0 hv _ (Nat.le_refl _)
      all_goals (try with_reducible (repeat' (first | apply And.intro | intro _)))
      all_goals (try (first | with_reducible refine wa_id ?_ | exact True.intro | exact rmean_fn ⟨_, _, _, _, _⟩ (by assumption) | omega | exact radd_fn _ _ _ so vp (by omega) (by omega)))
      refine V_ret (evs ?_)
      first | rfl | exact ⟨rfl, rfl, rfl, rfl⟩

end Go.S16

