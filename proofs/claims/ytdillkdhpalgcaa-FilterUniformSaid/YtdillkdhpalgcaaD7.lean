import Derived.Test.YtdillkdhpalgcaaB4
set_option linter.unusedSimpArgs false
set_option linter.unusedVariables false
set_option linter.unusedSimpArgs false
set_option linter.unusedVariables false
namespace Go.S16
open Go.RowKit Go.Proofs Go.Eng Go.Rect
set_option maxHeartbeats 4000000 in
set_option maxRecDepth 100000 in
/-- (*imageeditor/filter.view).pixelate -/
theorem pixelate_fn (v : Vw) (a b c d e : D) (x y : Int) (hv : PgH v x y) : Eng.Fn Try.prog 61 [.bx (vwC v a b c d e), .i x, .i y] (.dat (pxD (pxlF v x y))) := by
  have hp := hv.1
  have hz := hv.2.1
  have hb := hv.2.2.1
  have hx := hv.2.2.2.1
  have hy := hv.2.2.2.2.1
  have hW := pg_W hv
  have hH := pg_H hv
  unfold BdOk at hb
  have bx : pgX v x ≤ x ∧ x < pgX v x + v.ps.getD 0 0 := blk_bd hz.1
  have bw : pgY v y ≤ y ∧ y < pgY v y + v.ps.getD 0 0 := blk_bd hz.1
  have gx : v.bd.x ≤ pgX v x := blk_ge hz.1 hx.1
  have gy : v.bd.y ≤ pgY v y := blk_ge hz.1 hy.1
  have ex : x - (x - v.bd.x).tmod (v.ps.getD 0 0) = pgX v x := blk_e hz.1 hx.1
  have ey : y - (y - v.bd.y).tmod (v.ps.getD 0 0) = pgY v y := blk_e hz.1 hy.1
  refine Eng.Fn.by (fn := Try.f61) 91 [.cell 6 51] Try.func61 rfl Try.ntmps61 rfl (by simp) fun w0 G0 => ?_
  refine WA_seq (x := (fcd Try.f61 [0])) (y := (fcd Try.f61 [1])) ?_
  refine V_regionX Γ Δ [] [0, 1, 2, 6, 7, 8, 9, 10, 11, 12, 13, 14, 76, 82] (evs ?_)
  all_goals (try with_reducible (repeat' (first | apply And.intro | intro _)))
  all_goals (try (first | with_reducible refine wa_id ?_ | exact True.intro | omega | exact add_fn _ _ _ so vp (by omega) (by omega)))
  refine WA_seq (x := (fcd Try.f61 [1, 0])) (y := (fcd Try.f61 [1, 1])) ?_
  refine V_regionX Γ Δ [] [0, 1, 2, 6, 7, 8, 9, 10, 11, 12, 13, 14, 76, 82] (evs ?_)
  all_goals (try with_reducible (repeat' (first | apply And.intro | intro _)))
  all_goals (try (first | with_reducible refine wa_id ?_ | exact True.intro | omega | exact add_fn _ _ _ so vp (by omega) (by omega)))
  refine WA_seq (x := (fcd Try.f61 [1, 1, 0])) (y := (fcd Try.f61 [1, 1, 1])) ?_
  refine V_regionX Γ Δ [] [0, 1, 2, 6, 7, 8, 9, 10, 11, 12, 13, 14, 76, 82] (evs ?_)
  (try simp (maxSteps := 10000000) (disch := omega) only [w64, ex, ey])
  all_goals (try with_reducible (repeat' (first | apply And.intro | intro _)))
  all_goals (try (first | with_reducible refine wa_id ?_ | exact True.intro | omega | exact add_fn _ _ _ so vp (by omega) (by omega)))
  refine WA_seq (x := (fcd Try.f61 [1, 1, 1, 0])) (y := (fcd Try.f61 [1, 1, 1, 1])) ?_
  refine V_regionX Γ Δ [] [0, 1, 2, 6, 7, 8, 9, 10, 11, 12, 13, 14, 76, 82] (evs ?_)
  (try simp (maxSteps := 10000000) (disch := omega) only [w64, ex, ey])
  all_goals (try with_reducible (repeat' (first | apply And.intro | intro _)))
  all_goals (try (first | with_reducible refine wa_id ?_ | exact True.intro | omega | exact add_fn _ _ _ so vp (by omega) (by omega)))
  refine WA_seq (x := (fcd Try.f61 [1, 1, 1, 1, 0])) (y := (fcd Try.f61 [1, 1, 1, 1, 1])) ?_
  refine V_draw Γ [] [0, 1, 2, 6, 7, 8, 9, 10, 11, 12, 13, 14, 76, 82] mixed (by kernel_rfl) (evs ?_)
  (try simp (maxSteps := 10000000) (disch := omega) only [w64])
  all_goals (try with_reducible (repeat' (first | apply And.intro | intro _)))
  all_goals (try (first | with_reducible refine wa_id ?_ | exact True.intro | omega | exact add_fn _ _ _ so vp (by omega) (by omega)))
  refine WA_seq (x := (fcd Try.f61 [1, 1, 1, 1, 1, 0])) (y := (fcd Try.f61 [1, 1, 1, 1, 1, 1])) ?_
  refine V_draw Γ [] [0, 1, 2, 6, 7, 8, 9, 10, 11, 12, 13, 14, 76, 82] mixed (by kernel_rfl) (evs ?_)
  (try simp (maxSteps := 10000000) (disch := omega) only [w64])
  all_goals (try with_reducible (repeat' (first | apply And.intro | intro _)))
  all_goals (try (first | with_reducible refine wa_id ?_ | exact True.intro | omega | exact add_fn _ _ _ so vp (by omega) (by omega)))
  refine WA_seq (x := (fcd Try.f61 [1, 1, 1, 1, 1, 1, 0])) (y := (fcd Try.f61 [1, 1, 1, 1, 1, 1, 1])) ?_
  refine V_regionX Γ Δ [] [0, 1, 2, 6, 7, 8, 9, 10, 11, 12, 13, 14, 76, 82] (evs ?_)
  all_goals (try with_reducible (repeat' (first | apply And.intro | intro _)))
  all_goals (try (first | with_reducible refine wa_id ?_ | exact True.intro | omega | exact add_fn _ _ _ so vp (by omega) (by omega)))
  refine WA_seq (x := (fcd Try.f61 [1, 1, 1, 1, 1, 1, 1, 0])) (y := (fcd Try.f61 [1, 1, 1, 1, 1, 1, 1, 1])) ?_
  refine WA_seq (x := (fcd Try.f61 [1, 1, 1, 1, 1, 1, 1, 0, 0])) (y := (fcd Try.f61 [1, 1, 1, 1, 1, 1, 1, 0, 1])) ?_
  refine V_regionX Γ Δ [] [0, 1, 2, 6, 7, 8, 9, 10, 11, 12, 13, 14, 76, 82] (evs ?_)
  all_goals (try with_reducible (repeat' (first | apply And.intro | intro _)))
  all_goals (try (first | with_reducible refine wa_id ?_ | exact True.intro | omega | exact add_fn _ _ _ so vp (by omega) (by omega)))
  refine WA_block (c := (fcd Try.f61 [1, 1, 1, 1, 1, 1, 1, 0, 1, 0])) ?_
  refine V_loop (c := (fcd Try.f61 [1, 1, 1, 1, 1, 1, 1, 0, 1, 0, 0])) (α := Nat) [13, 14, 76, 82] [12, 18800, 18801, 18802, 18803, 18900, 18901, 18902, 18903] (fun m => [(13, .dat (.i (pgY v y + (m : Int))))]) (fun m => [(12, some (true, .box 83 [.dat (.i (pgK v (pgX v x) (pgY v y) (pgW v x) m 0).r), .dat (.i (pgK v (pgX v x) (pgY v y) (pgW v x) m 0).g), .dat (.i (pgK v (pgX v x) (pgY v y) (pgW v x) m 0).b), .dat (.i (pgK v (pgX v x) (pgY v y) (pgW v x) m 0).a), .dat (.i (pgK v (pgX v x) (pgY v y) (pgW v x) m 0).w)]))]) (fun m => m ≤ pgH v y) (fun m => pgH v y - m) 0 [] ?_ (evs ?_) ?_
  · exact Nat.zero_le _
  · (try with_reducible (repeat' (first | apply And.intro | intro _)))
    all_goals (first | exact True.intro | omega | (first | rfl | (simp; done)))
  · intro m hM
    refine WA_seq (x := (fcd Try.f61 [1, 1, 1, 1, 1, 1, 1, 0, 1, 0, 0, 0])) (y := (fcd Try.f61 [1, 1, 1, 1, 1, 1, 1, 0, 1, 0, 0, 1])) ?_
    refine WA_seq (x := (fcd Try.f61 [1, 1, 1, 1, 1, 1, 1, 0, 1, 0, 0, 0, 0])) (y := (fcd Try.f61 [1, 1, 1, 1, 1, 1, 1, 0, 1, 0, 0, 0, 1])) ?_
    refine V_regionX Γ Δ [] [0, 1, 2, 6, 7, 8, 9, 10, 11, 12, 13, 14, 76, 82] (evs ?_)
    all_goals (try with_reducible (repeat' (first | apply And.intro | intro _)))
    all_goals (try (first | with_reducible refine wa_id ?_ | exact True.intro | omega | exact add_fn _ _ _ so vp (by omega) (by omega)))
    refine V_cond (evs ?_)
    refine ⟨fun hc => ?_, fun hc => ?_⟩
    · refine WA_skip ?_
      refine WA_seq (x := (fcd Try.f61 [1, 1, 1, 1, 1, 1, 1, 0, 1, 0, 0, 1, 0])) (y := (fcd Try.f61 [1, 1, 1, 1, 1, 1, 1, 0, 1, 0, 0, 1, 1])) ?_
      refine WA_block (c := (fcd Try.f61 [1, 1, 1, 1, 1, 1, 1, 0, 1, 0, 0, 1, 0, 0])) ?_
      refine WA_seq (x := (fcd Try.f61 [1, 1, 1, 1, 1, 1, 1, 0, 1, 0, 0, 1, 0, 0, 0])) (y := (fcd Try.f61 [1, 1, 1, 1, 1, 1, 1, 0, 1, 0, 0, 1, 0, 0, 1])) ?_
      refine V_regionX Γ Δ [] [0, 1, 2, 6, 7, 8, 9, 10, 11, 12, 13, 14, 76, 82] (evs ?_)
      all_goals (try with_reducible (repeat' (first | apply And.intro | intro _)))
      all_goals (try (first | with_reducible refine wa_id ?_ | exact True.intro | omega | exact add_fn _ _ _ so vp (by omega) (by omega)))
      refine WA_block (c := (fcd Try.f61 [1, 1, 1, 1, 1, 1, 1, 0, 1, 0, 0, 1, 0, 0, 1, 0])) ?_
      refine V_loop (c := (fcd Try.f61 [1, 1, 1, 1, 1, 1, 1, 0, 1, 0, 0, 1, 0, 0, 1, 0, 0])) (α := Nat) [14, 82] [12, 18800, 18801, 18802, 18803, 18900, 18901, 18902, 18903] (fun k => [(14, .dat (.i (pgX v x + (k : Int))))]) (fun k => [(12, some (true, .box 83 [.dat (.i (pgK v (pgX v x) (pgY v y) (pgW v x) m k).r), .dat (.i (pgK v (pgX v x) (pgY v y) (pgW v x) m k).g), .dat (.i (pgK v (pgX v x) (pgY v y) (pgW v x) m k).b), .dat (.i (pgK v (pgX v x) (pgY v y) (pgW v x) m k).a), .dat (.i (pgK v (pgX v x) (pgY v y) (pgW v x) m k).w)]))]) (fun k => k ≤ pgW v x) (fun k => pgW v x - k) 0 [] ?_ (evs ?_) ?_
      · exact Nat.zero_le _
      · (try with_reducible (repeat' (first | apply And.intro | intro _)))
        all_goals (first | exact True.intro | omega | (first | rfl | (simp; done)))
      · intro k hK
        refine WA_seq (x := (fcd Try.f61 [1, 1, 1, 1, 1, 1, 1, 0, 1, 0, 0, 1, 0, 0, 1, 0, 0, 0])) (y := (fcd Try.f61 [1, 1, 1, 1, 1, 1, 1, 0, 1, 0, 0, 1, 0, 0, 1, 0, 0, 1])) ?_
        refine WA_seq (x := (fcd Try.f61 [1, 1, 1, 1, 1, 1, 1, 0, 1, 0, 0, 1, 0, 0, 1, 0, 0, 0, 0])) (y := (fcd Try.f61 [1, 1, 1, 1, 1, 1, 1, 0, 1, 0, 0, 1, 0, 0, 1, 0, 0, 0, 1])) ?_
        refine V_regionX Γ Δ [] [0, 1, 2, 6, 7, 8, 9, 10, 11, 12, 13, 14, 76, 82] (evs ?_)
        all_goals (try with_reducible (repeat' (first | apply And.intro | intro _)))
        all_goals (try (first | with_reducible refine wa_id ?_ | exact True.intro | omega | exact add_fn _ _ _ so vp (by omega) (by omega)))
        refine V_cond (evs ?_)
        refine ⟨fun hc => ?_, fun hc => ?_⟩
        · refine WA_skip ?_
          refine WA_seq (x := (fcd Try.f61 [1, 1, 1, 1, 1, 1, 1, 0, 1, 0, 0, 1, 0, 0, 1, 0, 0, 1, 0])) (y := (fcd Try.f61 [1, 1, 1, 1, 1, 1, 1, 0, 1, 0, 0, 1, 0, 0, 1, 0, 0, 1, 1])) ?_
          refine WA_block (c := (fcd Try.f61 [1, 1, 1, 1, 1, 1, 1, 0, 1, 0, 0, 1, 0, 0, 1, 0, 0, 1, 0, 0])) ?_
          refine V_regionX Γ Δ [] [0, 1, 2, 6, 7, 8, 9, 10, 11, 12, 13, 14, 76, 82] (evs ?_)
          (try simp (maxSteps := 10000000) (disch := omega) only [w64])
          have hm : m < pgH v y := by omega
          have hk : k < pgW v x := by omega
          have vi := pg_in hv hm hk
          have vp := pix_ok vi
          have so := pg_ok hv hm (k := k) (by omega)
          have ow := so.1
          have sw := pg_wb hv (m := m) (k := k) (by omega) (by omega)
          all_goals (try with_reducible (repeat' (first | apply And.intro | intro _)))
          all_goals (try (first | with_reducible refine wa_id ?_ | exact True.intro | exact pixel_fn ⟨⟨_, _, _⟩, ⟨_, _⟩, ⟨_, _, _, _⟩, _, _, _⟩ _ _ _ _ _ _ _ (by assumption) | exact add_fn _ _ _ (by assumption) (by assumption) (by assumption) (by assumption) | omega | exact add_fn _ _ _ so vp (by omega) (by omega)))
          refine V_regionX Γ Δ [] [0, 1, 2, 6, 7, 8, 9, 10, 11, 12, 13, 14, 76, 82] (evs ?_)
          (try simp (maxSteps := 10000000) (disch := omega) only [w64])
          all_goals (try with_reducible (repeat' (first | apply And.intro | intro _)))
          all_goals (try (first | with_reducible refine wa_id ?_ | exact True.intro | omega | exact add_fn _ _ _ so vp (by omega) (by omega)))
          refine V_next [] (k + 1) (evs ?_) ?_ ?_
          all_goals (try with_reducible (repeat' (first | apply And.intro | intro _)))
          all_goals (first | exact True.intro | omega | (first | (push_cast; omega) | (rw [pg_succ]; done)))
        · refine V_exit (evs ?_)
          refine V_regionX Γ Δ [] [0, 1, 2, 6, 7, 8, 9, 10, 11, 12, 13, 14, 76, 82] (evs ?_)
          (try simp (maxSteps := 10000000) (disch := omega) only [w64])
          all_goals (try with_reducible (repeat' (first | apply And.intro | intro _)))
          all_goals (try (first | with_reducible refine wa_id ?_ | exact True.intro | omega | exact add_fn _ _ _ so vp (by omega) (by omega)))
          refine V_next [] (m + 1) (evs ?_) ?_ ?_
          all_goals (try with_reducible (repeat' (first | apply And.intro | intro _)))
          all_goals (first | exact True.intro | omega | (first | (push_cast; omega) | (rw [show k = pgW v x from by omega, pg_over]; done)))
    · refine V_exit (evs ?_)
      refine WA_seq (x := (fcd Try.f61 [1, 1, 1, 1, 1, 1, 1, 1, 0])) (y := (fcd Try.f61 [1, 1, 1, 1, 1, 1, 1, 1, 1])) ?_
      refine V_regionX Γ Δ [] [0, 1, 2, 6, 7, 8, 9, 10, 11, 12, 13, 14, 76, 82] (evs ?_)
      have em : m = pgH v y := by omega
      subst em
      have so := pg_ok0 hv _ (Nat.le_refl _)
      all_goals (try with_reducible (repeat' (first | apply And.intro | intro _)))
      all_goals (try (first | with_reducible refine wa_id ?_ | exact True.intro | exact mean_fn _ (by assumption) | omega | exact add_fn _ _ _ so vp (by omega) (by omega)))
      refine V_ret (evs ?_)
      first | rfl | exact ⟨rfl, rfl, rfl, rfl⟩

end Go.S16

