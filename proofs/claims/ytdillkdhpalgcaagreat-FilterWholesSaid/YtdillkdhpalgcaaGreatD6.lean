import Derived.Test.YtdillkdhpalgcaaGreatB4
import Derived.Test.YtdillkdhpalgcaaGreatB1
set_option linter.unusedSimpArgs false
set_option linter.unusedVariables false
set_option linter.unusedSimpArgs false
set_option linter.unusedVariables false
namespace Go.S16
open Go.RowKit Go.Proofs Go.Eng Go.Rect
set_option maxHeartbeats 4000000 in
set_option maxRecDepth 100000 in
theorem motion_fn (v : Vw) (a b c d e : D) (x y : Int) (hv : MtH v x y) : Eng.Fn Tryz.prog 38 [.bx (vwC v a b c d e), .i x, .i y] (.dat (pxD (motF v x y))) := by
  have hp := hv.1
  have hd := hv.2.1
  have he := hv.2.2.1
  have hx := hv.2.2.2.1
  have n0 := motN_0 v
  have n1 : motN v ≤ 16 := by unfold motN abs2; omega
  have v0 := mt_c hv
  have p0 := pix_ok v0
  have z0 := zS_ok
  refine Eng.Fn.by (fn := Tryz.f38) 57 [.cell 6 49] Tryz.func38 rfl Tryz.ntmps38 rfl (by simp) fun w0 G0 => ?_
  refine WA_seq (x := (fcd Tryz.f38 [0])) (y := (fcd Tryz.f38 [1])) ?_
  refine V_regionX Γ Δ [] [0, 1, 2, 6, 7, 8, 9, 10, 11, 36] (evs ?_)
  all_goals (try with_reducible (repeat' (first | apply And.intro | intro _)))
  all_goals (try (first | with_reducible refine wa_id ?_ | exact True.intro | omega | exact add_fn zS (pixF v x y) 1 z0 p0 (by omega) (by decide) | exact add_fn _ _ _ so vp (by omega) (by omega)))
  refine WA_seq (x := (fcd Tryz.f38 [1, 0])) (y := (fcd Tryz.f38 [1, 1])) ?_
  refine V_draw Γ [] [0, 1, 2, 6, 7, 8, 9, 10, 11, 36] mixed (by kernel_rfl) (evs ?_)
  all_goals (try with_reducible (repeat' (first | apply And.intro | intro _)))
  all_goals (try (first | with_reducible refine wa_id ?_ | exact True.intro | omega | exact add_fn zS (pixF v x y) 1 z0 p0 (by omega) (by decide) | exact add_fn _ _ _ so vp (by omega) (by omega)))
  refine WA_seq (x := (fcd Tryz.f38 [1, 1, 0])) (y := (fcd Tryz.f38 [1, 1, 1])) ?_
  refine V_regionX Γ Δ [] [0, 1, 2, 6, 7, 8, 9, 10, 11, 36] (evs ?_)
  all_goals (try with_reducible (repeat' (first | apply And.intro | intro _)))
  all_goals (try (first | with_reducible refine wa_id ?_ | exact True.intro | exact fabs_fn _ (by omega) | omega | exact add_fn zS (pixF v x y) 1 z0 p0 (by omega) (by decide) | exact add_fn _ _ _ so vp (by omega) (by omega)))
  simp only [show max (abs2 (v.ps.getD 0 0)) (abs2 (v.ps.getD 1 0)) = motN v from rfl]
  refine WA_seq (x := (fcd Tryz.f38 [1, 1, 1, 0])) (y := (fcd Tryz.f38 [1, 1, 1, 1])) ?_
  refine V_regionX Γ Δ [] [0, 1, 2, 6, 7, 8, 9, 10, 11, 36] (evs ?_)
  all_goals (try with_reducible (repeat' (first | apply And.intro | intro _)))
  all_goals (try (first | with_reducible refine wa_id ?_ | exact True.intro | omega | exact add_fn zS (pixF v x y) 1 z0 p0 (by omega) (by decide) | exact add_fn _ _ _ so vp (by omega) (by omega)))
  refine WA_seq (x := (fcd Tryz.f38 [1, 1, 1, 1, 0])) (y := (fcd Tryz.f38 [1, 1, 1, 1, 1])) ?_
  refine V_regionX Γ Δ [] [0, 1, 2, 6, 7, 8, 9, 10, 11, 36] (evs ?_)
  (try simp (maxSteps := 10000000) (disch := omega) only [w64])
  all_goals (try with_reducible (repeat' (first | apply And.intro | intro _)))
  all_goals (try (first | with_reducible refine wa_id ?_ | exact True.intro | exact pixel_fn ⟨⟨_, _, _⟩, ⟨_, _⟩, ⟨_, _, _, _⟩, _, _, _⟩ _ _ _ _ _ _ _ (by assumption) | exact add_fn _ _ _ (by assumption) (by assumption) (by assumption) (by assumption) | omega | exact add_fn zS (pixF v x y) 1 z0 p0 (by omega) (by decide) | exact add_fn _ _ _ so vp (by omega) (by omega)))
  refine WA_seq (x := (fcd Tryz.f38 [1, 1, 1, 1, 1, 0])) (y := (fcd Tryz.f38 [1, 1, 1, 1, 1, 1])) ?_
  refine WA_seq (x := (fcd Tryz.f38 [1, 1, 1, 1, 1, 0, 0])) (y := (fcd Tryz.f38 [1, 1, 1, 1, 1, 0, 1])) ?_
  refine V_regionX Γ Δ [] [0, 1, 2, 6, 7, 8, 9, 10, 11, 36] (evs ?_)
  all_goals (try with_reducible (repeat' (first | apply And.intro | intro _)))
  all_goals (try (first | with_reducible refine wa_id ?_ | exact True.intro | omega | exact add_fn zS (pixF v x y) 1 z0 p0 (by omega) (by decide) | exact add_fn _ _ _ so vp (by omega) (by omega)))
  refine WA_block (c := (fcd Tryz.f38 [1, 1, 1, 1, 1, 0, 1, 0])) ?_
  refine V_loop (c := (fcd Tryz.f38 [1, 1, 1, 1, 1, 0, 1, 0, 0])) (α := Nat) [11, 36] [10, 14500, 14501, 14502, 14503, 15200, 15201, 15202, 15203, 15400, 15401, 15402, 15403, 15500, 15501, 15502, 15503] (fun k => [(11, .dat (.i (k : Int)))]) (fun k => [(10, some (true, .box 67 [.dat (.i (motK v x y k).r), .dat (.i (motK v x y k).g), .dat (.i (motK v x y k).b), .dat (.i (motK v x y k).a), .dat (.i (motK v x y k).w)]))]) (fun k => 1 ≤ k ∧ (k : Int) ≤ motN v + 1) (fun k => (motN v + 1).toNat - k) 1 [] ?_ (evs ?_) ?_
  · omega
  · (try with_reducible (repeat' (first | apply And.intro | intro _)))
    all_goals (first | exact True.intro | omega | (first | exact congrArg Sm.r (mt_1 v x y) | exact congrArg Sm.g (mt_1 v x y) | exact congrArg Sm.b (mt_1 v x y) | exact congrArg Sm.a (mt_1 v x y) | exact congrArg Sm.w (mt_1 v x y) | rfl | (simp; done)))
  · intro k hK
    refine WA_seq (x := (fcd Tryz.f38 [1, 1, 1, 1, 1, 0, 1, 0, 0, 0])) (y := (fcd Tryz.f38 [1, 1, 1, 1, 1, 0, 1, 0, 0, 1])) ?_
    refine WA_seq (x := (fcd Tryz.f38 [1, 1, 1, 1, 1, 0, 1, 0, 0, 0, 0])) (y := (fcd Tryz.f38 [1, 1, 1, 1, 1, 0, 1, 0, 0, 0, 1])) ?_
    refine V_regionX Γ Δ [] [0, 1, 2, 6, 7, 8, 9, 10, 11, 36] (evs ?_)
    all_goals (try with_reducible (repeat' (first | apply And.intro | intro _)))
    all_goals (try (first | with_reducible refine wa_id ?_ | exact True.intro | omega | exact add_fn zS (pixF v x y) 1 z0 p0 (by omega) (by decide) | exact add_fn _ _ _ so vp (by omega) (by omega)))
    refine V_cond (evs ?_)
    refine ⟨fun hc => ?_, fun hc => ?_⟩
    · refine WA_skip ?_
      refine WA_seq (x := (fcd Tryz.f38 [1, 1, 1, 1, 1, 0, 1, 0, 0, 1, 0])) (y := (fcd Tryz.f38 [1, 1, 1, 1, 1, 0, 1, 0, 0, 1, 1])) ?_
      refine WA_block (c := (fcd Tryz.f38 [1, 1, 1, 1, 1, 0, 1, 0, 0, 1, 0, 0])) ?_
      refine V_regionX Γ Δ [] [0, 1, 2, 6, 7, 8, 9, 10, 11, 36] (evs ?_)
      have kb0 := way_bd (k := k) (d := v.ps.getD 0 0) (by omega) hd
      have kb1 := way_bd (k := k) (d := v.ps.getD 1 0) (by omega) he
      have dw0 := div_way (k := (k : Int)) (d := v.ps.getD 0 0) (n := motN v) (by omega) (by unfold motN abs2; omega)
      have dw1w := div_way (k := (k : Int)) (d := v.ps.getD 1 0) (n := motN v) (by omega) (by unfold motN abs2; omega)
      have hkn : (k : Int) ≤ motN v := by omega
      have vi := mt_in hv hkn
      have vp := pix_ok vi
      have so := mt_ok hv k (by omega)
      have sw := motK_w v x y k
      (try simp (maxSteps := 10000000) (disch := omega) only [w64])
      all_goals (try with_reducible (repeat' (first | apply And.intro | intro _)))
      all_goals (try (first | with_reducible refine wa_id ?_ | exact True.intro | exact divw_fn _ _ (by omega) (by omega) (by omega) (by omega) | exact pixel_fn ⟨⟨_, _, _⟩, ⟨_, _⟩, ⟨_, _, _, _⟩, _, _, _⟩ _ _ _ _ _ _ _ (by assumption) | exact add_fn _ _ _ (by assumption) (by assumption) (by assumption) (by assumption) | omega | exact add_fn zS (pixF v x y) 1 z0 p0 (by omega) (by decide) | exact add_fn _ _ _ so vp (by omega) (by omega)))
      refine V_regionX Γ Δ [] [0, 1, 2, 6, 7, 8, 9, 10, 11, 36] (evs ?_)
      all_goals (try with_reducible (repeat' (first | apply And.intro | intro _)))
      all_goals (try (first | with_reducible refine wa_id ?_ | exact True.intro | omega | exact add_fn zS (pixF v x y) 1 z0 p0 (by omega) (by decide) | exact add_fn _ _ _ so vp (by omega) (by omega)))
      refine V_next [] (k + 1) (evs ?_) ?_ ?_
      all_goals (try with_reducible (repeat' (first | apply And.intro | intro _)))
      all_goals (first | exact True.intro | omega | (first | (push_cast; omega) | exact w64l (n := 64) (by omega) (by omega) | (rw [motK_succ, motP]; done)))
    · refine V_exit (evs ?_)
      refine WA_seq (x := (fcd Tryz.f38 [1, 1, 1, 1, 1, 1, 0])) (y := (fcd Tryz.f38 [1, 1, 1, 1, 1, 1, 1])) ?_
      refine V_regionX Γ Δ [] [0, 1, 2, 6, 7, 8, 9, 10, 11, 36] (evs ?_)
      have ek : k = (motN v).toNat + 1 := by omega
      subst ek
      have so := mt_ok hv ((motN v).toNat + 1) (by omega)
      all_goals (try with_reducible (repeat' (first | apply And.intro | intro _)))
      all_goals (try (first | with_reducible refine wa_id ?_ | exact True.intro | exact mean_fn _ (by assumption) | omega | exact add_fn zS (pixF v x y) 1 z0 p0 (by omega) (by decide) | exact add_fn _ _ _ so vp (by omega) (by omega)))
      refine V_ret (evs ?_)
      first | rfl | exact ⟨rfl, rfl, rfl, rfl⟩

end Go.S16

set_option linter.unusedSimpArgs false
set_option linter.unusedVariables false
namespace Go.S16
open Go.RowKit Go.Proofs Go.Eng Go.Rect
set_option maxHeartbeats 4000000 in
set_option maxRecDepth 100000 in
theorem pixelate_fn (v : Vw) (a b c d e : D) (x y : Int) (hv : PgH v x y) : Eng.Fn Tryz.prog 39 [.bx (vwC v a b c d e), .i x, .i y] (.dat (pxD (pxlF v x y))) := by
  have hp := hv.1
  have hz := hv.2.1
  have hb := hv.2.2.1
  have hx := hv.2.2.2.1
  have hy := hv.2.2.2.2.1
  have hW := pg_W hv
  have hH := pg_H hv
  unfold BdOk at hb
  have bx : pgX v x ≤ x ∧ x < pgX v x + v.ps.getD 0 0 := blk_bd hz.1
  have bw : pgY v y ≤ y ∧ y < pgY v y + v.ps.getD 0 0 := blk_bd hz.1
  have gx : v.bd.x ≤ pgX v x := blk_ge hz.1 hx.1
  have gy : v.bd.y ≤ pgY v y := blk_ge hz.1 hy.1
  have ex : x - (x - v.bd.x).tmod (v.ps.getD 0 0) = pgX v x := blk_e hz.1 hx.1
  have ey : y - (y - v.bd.y).tmod (v.ps.getD 0 0) = pgY v y := blk_e hz.1 hy.1
  refine Eng.Fn.by (fn := Tryz.f39) 91 [.cell 6 49] Tryz.func39 rfl Tryz.ntmps39 rfl (by simp) fun w0 G0 => ?_
  refine WA_seq (x := (fcd Tryz.f39 [0])) (y := (fcd Tryz.f39 [1])) ?_
  refine V_regionX Γ Δ [] [0, 1, 2, 6, 7, 8, 9, 10, 11, 12, 13, 14, 76, 82] (evs ?_)
  all_goals (try with_reducible (repeat' (first | apply And.intro | intro _)))
  all_goals (try (first | with_reducible refine wa_id ?_ | exact True.intro | omega | exact add_fn _ _ _ so vp (by omega) (by omega)))
  refine WA_seq (x := (fcd Tryz.f39 [1, 0])) (y := (fcd Tryz.f39 [1, 1])) ?_
  refine V_regionX Γ Δ [] [0, 1, 2, 6, 7, 8, 9, 10, 11, 12, 13, 14, 76, 82] (evs ?_)
  all_goals (try with_reducible (repeat' (first | apply And.intro | intro _)))
  all_goals (try (first | with_reducible refine wa_id ?_ | exact True.intro | omega | exact add_fn _ _ _ so vp (by omega) (by omega)))
  refine WA_seq (x := (fcd Tryz.f39 [1, 1, 0])) (y := (fcd Tryz.f39 [1, 1, 1])) ?_
  refine V_regionX Γ Δ [] [0, 1, 2, 6, 7, 8, 9, 10, 11, 12, 13, 14, 76, 82] (evs ?_)
  (try simp (maxSteps := 10000000) (disch := omega) only [w64, ex, ey])
  all_goals (try with_reducible (repeat' (first | apply And.intro | intro _)))
  all_goals (try (first | with_reducible refine wa_id ?_ | exact True.intro | omega | exact add_fn _ _ _ so vp (by omega) (by omega)))
  refine WA_seq (x := (fcd Tryz.f39 [1, 1, 1, 0])) (y := (fcd Tryz.f39 [1, 1, 1, 1])) ?_
  refine V_regionX Γ Δ [] [0, 1, 2, 6, 7, 8, 9, 10, 11, 12, 13, 14, 76, 82] (evs ?_)
  (try simp (maxSteps := 10000000) (disch := omega) only [w64, ex, ey])
  all_goals (try with_reducible (repeat' (first | apply And.intro | intro _)))
  all_goals (try (first | with_reducible refine wa_id ?_ | exact True.intro | omega | exact add_fn _ _ _ so vp (by omega) (by omega)))
  refine WA_seq (x := (fcd Tryz.f39 [1, 1, 1, 1, 0])) (y := (fcd Tryz.f39 [1, 1, 1, 1, 1])) ?_
  refine V_draw Γ [] [0, 1, 2, 6, 7, 8, 9, 10, 11, 12, 13, 14, 76, 82] mixed (by kernel_rfl) (evs ?_)
  (try simp (maxSteps := 10000000) (disch := omega) only [w64])
  all_goals (try with_reducible (repeat' (first | apply And.intro | intro _)))
  all_goals (try (first | with_reducible refine wa_id ?_ | exact True.intro | omega | exact add_fn _ _ _ so vp (by omega) (by omega)))
  refine WA_seq (x := (fcd Tryz.f39 [1, 1, 1, 1, 1, 0])) (y := (fcd Tryz.f39 [1, 1, 1, 1, 1, 1])) ?_
  refine V_draw Γ [] [0, 1, 2, 6, 7, 8, 9, 10, 11, 12, 13, 14, 76, 82] mixed (by kernel_rfl) (evs ?_)
  (try simp (maxSteps := 10000000) (disch := omega) only [w64])
  all_goals (try with_reducible (repeat' (first | apply And.intro | intro _)))
  all_goals (try (first | with_reducible refine wa_id ?_ | exact True.intro | omega | exact add_fn _ _ _ so vp (by omega) (by omega)))
  refine WA_seq (x := (fcd Tryz.f39 [1, 1, 1, 1, 1, 1, 0])) (y := (fcd Tryz.f39 [1, 1, 1, 1, 1, 1, 1])) ?_
  refine V_regionX Γ Δ [] [0, 1, 2, 6, 7, 8, 9, 10, 11, 12, 13, 14, 76, 82] (evs ?_)
  all_goals (try with_reducible (repeat' (first | apply And.intro | intro _)))
  all_goals (try (first | with_reducible refine wa_id ?_ | exact True.intro | omega | exact add_fn _ _ _ so vp (by omega) (by omega)))
  refine WA_seq (x := (fcd Tryz.f39 [1, 1, 1, 1, 1, 1, 1, 0])) (y := (fcd Tryz.f39 [1, 1, 1, 1, 1, 1, 1, 1])) ?_
  refine WA_seq (x := (fcd Tryz.f39 [1, 1, 1, 1, 1, 1, 1, 0, 0])) (y := (fcd Tryz.f39 [1, 1, 1, 1, 1, 1, 1, 0, 1])) ?_
  refine V_regionX Γ Δ [] [0, 1, 2, 6, 7, 8, 9, 10, 11, 12, 13, 14, 76, 82] (evs ?_)
  all_goals (try with_reducible (repeat' (first | apply And.intro | intro _)))
  all_goals (try (first | with_reducible refine wa_id ?_ | exact True.intro | omega | exact add_fn _ _ _ so vp (by omega) (by omega)))
  refine WA_block (c := (fcd Tryz.f39 [1, 1, 1, 1, 1, 1, 1, 0, 1, 0])) ?_
  refine V_loop (c := (fcd Tryz.f39 [1, 1, 1, 1, 1, 1, 1, 0, 1, 0, 0])) (α := Nat) [13, 14, 76, 82] [12, 18800, 18801, 18802, 18803, 18900, 18901, 18902, 18903] (fun m => [(13, .dat (.i (pgY v y + (m : Int))))]) (fun m => [(12, some (true, .box 67 [.dat (.i (pgK v (pgX v x) (pgY v y) (pgW v x) m 0).r), .dat (.i (pgK v (pgX v x) (pgY v y) (pgW v x) m 0).g), .dat (.i (pgK v (pgX v x) (pgY v y) (pgW v x) m 0).b), .dat (.i (pgK v (pgX v x) (pgY v y) (pgW v x) m 0).a), .dat (.i (pgK v (pgX v x) (pgY v y) (pgW v x) m 0).w)]))]) (fun m => m ≤ pgH v y) (fun m => pgH v y - m) 0 [] ?_ (evs ?_) ?_
  · exact Nat.zero_le _
  · (try with_reducible (repeat' (first | apply And.intro | intro _)))
    all_goals (first | exact True.intro | omega | (first | rfl | (simp; done)))
  · intro m hM
    refine WA_seq (x := (fcd Tryz.f39 [1, 1, 1, 1, 1, 1, 1, 0, 1, 0, 0, 0])) (y := (fcd Tryz.f39 [1, 1, 1, 1, 1, 1, 1, 0, 1, 0, 0, 1])) ?_
    refine WA_seq (x := (fcd Tryz.f39 [1, 1, 1, 1, 1, 1, 1, 0, 1, 0, 0, 0, 0])) (y := (fcd Tryz.f39 [1, 1, 1, 1, 1, 1, 1, 0, 1, 0, 0, 0, 1])) ?_
    refine V_regionX Γ Δ [] [0, 1, 2, 6, 7, 8, 9, 10, 11, 12, 13, 14, 76, 82] (evs ?_)
    all_goals (try with_reducible (repeat' (first | apply And.intro | intro _)))
    all_goals (try (first | with_reducible refine wa_id ?_ | exact True.intro | omega | exact add_fn _ _ _ so vp (by omega) (by omega)))
    refine V_cond (evs ?_)
    refine ⟨fun hc => ?_, fun hc => ?_⟩
    · refine WA_skip ?_
      refine WA_seq (x := (fcd Tryz.f39 [1, 1, 1, 1, 1, 1, 1, 0, 1, 0, 0, 1, 0])) (y := (fcd Tryz.f39 [1, 1, 1, 1, 1, 1, 1, 0, 1, 0, 0, 1, 1])) ?_
      refine WA_block (c := (fcd Tryz.f39 [1, 1, 1, 1, 1, 1, 1, 0, 1, 0, 0, 1, 0, 0])) ?_
      refine WA_seq (x := (fcd Tryz.f39 [1, 1, 1, 1, 1, 1, 1, 0, 1, 0, 0, 1, 0, 0, 0])) (y := (fcd Tryz.f39 [1, 1, 1, 1, 1, 1, 1, 0, 1, 0, 0, 1, 0, 0, 1])) ?_
      refine V_regionX Γ Δ [] [0, 1, 2, 6, 7, 8, 9, 10, 11, 12, 13, 14, 76, 82] (evs ?_)
      all_goals (try with_reducible (repeat' (first | apply And.intro | intro _)))
      all_goals (try (first | with_reducible refine wa_id ?_ | exact True.intro | omega | exact add_fn _ _ _ so vp (by omega) (by omega)))
      refine WA_block (c := (fcd Tryz.f39 [1, 1, 1, 1, 1, 1, 1, 0, 1, 0, 0, 1, 0, 0, 1, 0])) ?_
      refine V_loop (c := (fcd Tryz.f39 [1, 1, 1, 1, 1, 1, 1, 0, 1, 0, 0, 1, 0, 0, 1, 0, 0])) (α := Nat) [14, 82] [12, 18800, 18801, 18802, 18803, 18900, 18901, 18902, 18903] (fun k => [(14, .dat (.i (pgX v x + (k : Int))))]) (fun k => [(12, some (true, .box 67 [.dat (.i (pgK v (pgX v x) (pgY v y) (pgW v x) m k).r), .dat (.i (pgK v (pgX v x) (pgY v y) (pgW v x) m k).g), .dat (.i (pgK v (pgX v x) (pgY v y) (pgW v x) m k).b), .dat (.i (pgK v (pgX v x) (pgY v y) (pgW v x) m k).a), .dat (.i (pgK v (pgX v x) (pgY v y) (pgW v x) m k).w)]))]) (fun k => k ≤ pgW v x) (fun k => pgW v x - k) 0 [] ?_ (evs ?_) ?_
      · exact Nat.zero_le _
      · (try with_reducible (repeat' (first | apply And.intro | intro _)))
        all_goals (first | exact True.intro | omega | (first | rfl | (simp; done)))
      · intro k hK
        refine WA_seq (x := (fcd Tryz.f39 [1, 1, 1, 1, 1, 1, 1, 0, 1, 0, 0, 1, 0, 0, 1, 0, 0, 0])) (y := (fcd Tryz.f39 [1, 1, 1, 1, 1, 1, 1, 0, 1, 0, 0, 1, 0, 0, 1, 0, 0, 1])) ?_
        refine WA_seq (x := (fcd Tryz.f39 [1, 1, 1, 1, 1, 1, 1, 0, 1, 0, 0, 1, 0, 0, 1, 0, 0, 0, 0])) (y := (fcd Tryz.f39 [1, 1, 1, 1, 1, 1, 1, 0, 1, 0, 0, 1, 0, 0, 1, 0, 0, 0, 1])) ?_
        refine V_regionX Γ Δ [] [0, 1, 2, 6, 7, 8, 9, 10, 11, 12, 13, 14, 76, 82] (evs ?_)
        all_goals (try with_reducible (repeat' (first | apply And.intro | intro _)))
        all_goals (try (first | with_reducible refine wa_id ?_ | exact True.intro | omega | exact add_fn _ _ _ so vp (by omega) (by omega)))
        refine V_cond (evs ?_)
        refine ⟨fun hc => ?_, fun hc => ?_⟩
        · refine WA_skip ?_
          refine WA_seq (x := (fcd Tryz.f39 [1, 1, 1, 1, 1, 1, 1, 0, 1, 0, 0, 1, 0, 0, 1, 0, 0, 1, 0])) (y := (fcd Tryz.f39 [1, 1, 1, 1, 1, 1, 1, 0, 1, 0, 0, 1, 0, 0, 1, 0, 0, 1, 1])) ?_
          refine WA_block (c := (fcd Tryz.f39 [1, 1, 1, 1, 1, 1, 1, 0, 1, 0, 0, 1, 0, 0, 1, 0, 0, 1, 0, 0])) ?_
          refine V_regionX Γ Δ [] [0, 1, 2, 6, 7, 8, 9, 10, 11, 12, 13, 14, 76, 82] (evs ?_)
          (try simp (maxSteps := 10000000) (disch := omega) only [w64])
          have hm : m < pgH v y := by omega
          have hk : k < pgW v x := by omega
          have vi := pg_in hv hm hk
          have vp := pix_ok vi
          have so := pg_ok hv hm (k := k) (by omega)
          have ow := so.1
          have sw := pg_wb hv (m := m) (k := k) (by omega) (by omega)
          all_goals (try with_reducible (repeat' (first | apply And.intro | intro _)))
          all_goals (try (first | with_reducible refine wa_id ?_ | exact True.intro | exact pixel_fn ⟨⟨_, _, _⟩, ⟨_, _⟩, ⟨_, _, _, _⟩, _, _, _⟩ _ _ _ _ _ _ _ (by assumption) | exact add_fn _ _ _ (by assumption) (by assumption) (by assumption) (by assumption) | omega | exact add_fn _ _ _ so vp (by omega) (by omega)))
          refine V_regionX Γ Δ [] [0, 1, 2, 6, 7, 8, 9, 10, 11, 12, 13, 14, 76, 82] (evs ?_)
          (try simp (maxSteps := 10000000) (disch := omega) only [w64])
          all_goals (try with_reducible (repeat' (first | apply And.intro | intro _)))
          all_goals (try (first | with_reducible refine wa_id ?_ | exact True.intro | omega | exact add_fn _ _ _ so vp (by omega) (by omega)))
          refine V_next [] (k + 1) (evs ?_) ?_ ?_
          all_goals (try with_reducible (repeat' (first | apply And.intro | intro _)))
          all_goals (first | exact True.intro | omega | (first | (push_cast; omega) | (rw [pg_succ]; done)))
        · refine V_exit (evs ?_)
          refine V_regionX Γ Δ [] [0, 1, 2, 6, 7, 8, 9, 10, 11, 12, 13, 14, 76, 82] (evs ?_)
          (try simp (maxSteps := 10000000) (disch := omega) only [w64])
          all_goals (try with_reducible (repeat' (first | apply And.intro | intro _)))
          all_goals (try (first | with_reducible refine wa_id ?_ | exact True.intro | omega | exact add_fn _ _ _ so vp (by omega) (by omega)))
          refine V_next [] (m + 1) (evs ?_) ?_ ?_
          all_goals (try with_reducible (repeat' (first | apply And.intro | intro _)))
          all_goals (first | exact True.intro | omega | (first | (push_cast; omega) | (rw [show k = pgW v x from by omega, pg_over]; done)))
    · refine V_exit (evs ?_)
      refine WA_seq (x := (fcd Tryz.f39 [1, 1, 1, 1, 1, 1, 1, 1, 0])) (y := (fcd Tryz.f39 [1, 1, 1, 1, 1, 1, 1, 1, 1])) ?_
      refine V_regionX Γ Δ [] [0, 1, 2, 6, 7, 8, 9, 10, 11, 12, 13, 14, 76, 82] (evs ?_)
      have em : m = pgH v y := by omega
      subst em
      have so := pg_ok0 hv _ (Nat.le_refl _)
      all_goals (try with_reducible (repeat' (first | apply And.intro | intro _)))
      all_goals (try (first | with_reducible refine wa_id ?_ | exact True.intro | exact mean_fn _ (by assumption) | omega | exact add_fn _ _ _ so vp (by omega) (by omega)))
      refine V_ret (evs ?_)
      first | rfl | exact ⟨rfl, rfl, rfl, rfl⟩

end Go.S16

