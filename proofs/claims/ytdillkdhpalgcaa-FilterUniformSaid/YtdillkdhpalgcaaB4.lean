import Derived.Test.YtdillkdhpalgcaaA2
set_option linter.unusedSimpArgs false
set_option linter.unusedVariables false
set_option linter.unusedSimpArgs false
set_option linter.unusedVariables false
namespace Go.S16
open Go.RowKit Go.Proofs Go.Eng Go.Rect
set_option maxHeartbeats 2000000 in
set_option maxRecDepth 100000 in
/-- (*imageeditor/filter.view).pixel -/
theorem pixel_fn (v : Vw) (a b c d e : D) (x y : Int) (hv : VIn v x y) : Eng.Fn Try.prog 59 [.bx (vwC v a b c d e), .i x, .i y] (.dat (pxD (pixF v x y))) := by
  have hb := hv.2.1
  have hx := hv.2.2.1
  have hy := hv.2.2.2
  have bx := cx_bd hb x
  have by_ := cy_bd hb y
  have ix := vin_ix hv
  have hz := (ichk0 hv.1).1
  unfold Z0 at hz
  unfold BdOk at hb
  have ex : cxI v x = min (max x v.bd.x) (v.bd.x + v.bd.w - 1) := rfl
  have ey : cyI v y = min (max y v.bd.y) (v.bd.y + v.bd.h - 1) := rfl
  refine Eng.Fn.by (fn := Try.f59) 75 [.cell 6 51] Try.func59 rfl Try.ntmps59 rfl (by simp) fun w0 G0 => ?_
  refine WA_seq (x := (fcd Try.f59 [0])) (y := (fcd Try.f59 [1])) ?_
  refine V_regionX Γ Δ [] [0, 1, 2, 6] (evs ?_)
  all_goals (try with_reducible (repeat' (first | apply And.intro | intro _)))
  all_goals (try (first | with_reducible refine wa_id ?_ | exact True.intro | omega))
  refine WA_seq (x := (fcd Try.f59 [1, 0])) (y := (fcd Try.f59 [1, 1])) ?_
  refine V_draw Γ [] [0, 1, 2, 6] mixed (by kernel_rfl) (evs ?_)
  (try simp (maxSteps := 10000000) (disch := omega) only [w64])
  simp only [← ex]
  all_goals (try with_reducible (repeat' (first | apply And.intro | intro _)))
  all_goals (try (first | with_reducible refine wa_id ?_ | exact True.intro | omega))
  refine WA_seq (x := (fcd Try.f59 [1, 1, 0])) (y := (fcd Try.f59 [1, 1, 1])) ?_
  refine V_draw Γ [] [0, 1, 2, 6] mixed (by kernel_rfl) (evs ?_)
  (try simp (maxSteps := 10000000) (disch := omega) only [w64])
  simp only [← ey]
  all_goals (try with_reducible (repeat' (first | apply And.intro | intro _)))
  all_goals (try (first | with_reducible refine wa_id ?_ | exact True.intro | omega))
  refine WA_seq (x := (fcd Try.f59 [1, 1, 1, 0])) (y := (fcd Try.f59 [1, 1, 1, 1])) ?_
  refine V_draw Γ [] [0, 1, 2, 6] mixed (by kernel_rfl) (evs ?_)
  (try simp (maxSteps := 10000000) (disch := omega) only [w64])
  all_goals (try with_reducible (repeat' (first | apply And.intro | intro _)))
  all_goals (try (first | with_reducible refine wa_id ?_ | exact True.intro | omega))
  refine V_ret (evs ?_)
  first | rfl | exact ⟨rfl, rfl, rfl, rfl⟩

set_option maxRecDepth 100000 in
/-- (*imageeditor/filter.sums).add -/
theorem add_fn (s : Sm) (p : Px) (w : Int) (hs : SmOk s) (hp : validP p = true) (hw : 0 ≤ w) (hb : s.w + w ≤ 268435456) : Eng.FnX Try.prog 64 [.mb 83 [.dat (.i s.r), .dat (.i s.g), .dat (.i s.b), .dat (.i s.a), .dat (.i s.w)] [.dat (.i (addS s p w).r), .dat (.i (addS s p w).g), .dat (.i (addS s p w).b), .dat (.i (addS s p w).a), .dat (.i (addS s p w).w)], .ro (.dat (pxD p)), .ro (.dat (.i w))] (.tup []) := by
  obtain ⟨hs2, m, m1, m2, m3⟩ := add_ok hs hp hw hb
  have vb := vP_bd hp
  unfold SmOk at hs
  refine Eng.FnX.by (fn := Try.f64) 60 [] Try.func64 rfl Try.ntmps64 rfl (by simp) (by simp [PX.plains, PX.plain, AV.dats, Ent.plain, AV.datPs, AV.datP, D.plain]) rfl fun w0 X u => ?_
  refine WA_seq (x := (fcd Try.f64 [0])) (y := (fcd Try.f64 [1])) ?_
  refine V_regionX Γ Δ [] [0, 1, 2, 4, 6] (evs ?_)
  all_goals (try with_reducible (repeat' (first | apply And.intro | intro _)))
  all_goals (try (first | with_reducible refine wa_id ?_ | exact True.intro | omega))
  refine WA_seq (x := (fcd Try.f64 [1, 0])) (y := (fcd Try.f64 [1, 1])) ?_
  refine V_regionX Γ Δ [] [0, 1, 2, 4, 6] (evs ?_)
  (try simp (maxSteps := 10000000) (disch := omega) only [w64])
  all_goals (try with_reducible (repeat' (first | apply And.intro | intro _)))
  all_goals (try (first | with_reducible refine wa_id ?_ | exact True.intro | omega))
  refine WA_seq (x := (fcd Try.f64 [1, 1, 0])) (y := (fcd Try.f64 [1, 1, 1])) ?_
  refine V_draw Γ [] [0, 1, 2, 4, 6] mixed (by kernel_rfl) (evs ?_)
  (try simp (maxSteps := 10000000) (disch := omega) only [w64])
  all_goals (try with_reducible (repeat' (first | apply And.intro | intro _)))
  all_goals (try (first | with_reducible refine wa_id ?_ | exact True.intro | omega))
  refine WA_seq (x := (fcd Try.f64 [1, 1, 1, 0])) (y := (fcd Try.f64 [1, 1, 1, 1])) ?_
  refine V_draw Γ [] [0, 1, 2, 4, 6] mixed (by kernel_rfl) (evs ?_)
  (try simp (maxSteps := 10000000) (disch := omega) only [w64])
  all_goals (try with_reducible (repeat' (first | apply And.intro | intro _)))
  all_goals (try (first | with_reducible refine wa_id ?_ | exact True.intro | omega))
  refine WA_seq (x := (fcd Try.f64 [1, 1, 1, 1, 0])) (y := (fcd Try.f64 [1, 1, 1, 1, 1])) ?_
  refine V_draw Γ [] [0, 1, 2, 4, 6] mixed (by kernel_rfl) (evs ?_)
  (try simp (maxSteps := 10000000) (disch := omega) only [w64])
  all_goals (try with_reducible (repeat' (first | apply And.intro | intro _)))
  all_goals (try (first | with_reducible refine wa_id ?_ | exact True.intro | omega))
  refine WA_seq (x := (fcd Try.f64 [1, 1, 1, 1, 1, 0])) (y := (fcd Try.f64 [1, 1, 1, 1, 1, 1])) ?_
  refine V_regionX Γ Δ [] [0, 1, 2, 4, 6] (evs ?_)
  (try simp (maxSteps := 10000000) (disch := omega) only [w64])
  all_goals (try with_reducible (repeat' (first | apply And.intro | intro _)))
  all_goals (try (first | with_reducible refine wa_id ?_ | exact True.intro | omega))
  refine V_regionX Γ Δ [] [0, 1, 2, 4, 6] (evs ?_)
  (try simp (maxSteps := 10000000) (disch := omega) only [w64])
  all_goals (try with_reducible (repeat' (first | apply And.intro | intro _)))
  all_goals (try (first | with_reducible refine wa_id ?_ | exact True.intro | omega))
  try refine V_end (evs ?_)
  all_goals (first | rfl | exact ⟨rfl, rfl, rfl, rfl, rfl⟩)

set_option maxRecDepth 100000 in
/-- (*imageeditor/filter.sums).mean -/
theorem mean_fn (s : Sm) (hs : SmOk s) : Eng.Fn Try.prog 53 [.bx (smC s)] (.dat (pxD (meanS s))) := by
  unfold SmOk at hs
  have hw : s.a = 0 ∨ 0 < s.w := by omega
  refine Eng.Fn.by (fn := Try.f53) 51 [.cell 2 51] Try.func53 rfl Try.ntmps53 rfl (by simp) fun w0 G0 => ?_
  refine WA_seq (x := (fcd Try.f53 [0])) (y := (fcd Try.f53 [1])) ?_
  refine V_regionX Γ Δ [] [0, 2, 3, 8, 20] (evs ?_)
  all_goals (try with_reducible (repeat' (first | apply And.intro | intro _)))
  all_goals (try (first | with_reducible refine wa_id ?_ | exact True.intro | omega))
  refine WA_seq (x := (fcd Try.f53 [1, 0])) (y := (fcd Try.f53 [1, 1])) ?_
  refine WA_seq (x := (fcd Try.f53 [1, 0, 0])) (y := (fcd Try.f53 [1, 0, 1])) ?_
  refine V_regionX Γ Δ [] [0, 2, 3, 8, 20] (evs ?_)
  all_goals (try with_reducible (repeat' (first | apply And.intro | intro _)))
  all_goals (try (first | with_reducible refine wa_id ?_ | exact True.intro | omega))
  refine V_cond (evs ?_)
  refine ⟨fun hc => ?_, fun hc => ?_⟩
  · refine WA_seq (x := (fcd Try.f53 [1, 0, 1, 0, 0])) (y := (fcd Try.f53 [1, 0, 1, 0, 1])) ?_
    refine V_regionX Γ Δ [] [0, 2, 3, 8, 20] (evs ?_)
    all_goals (try with_reducible (repeat' (first | apply And.intro | intro _)))
    all_goals (try (first | with_reducible refine wa_id ?_ | exact True.intro | omega))
    refine V_ret (evs ?_)
    first | exact pe (p := zP) (mn1 hc) | exact pe (p := zP) (mn2 ‹_› hc) | exact pe (mn3 ‹_› hc)
  · refine WA_skip ?_
    refine WA_seq (x := (fcd Try.f53 [1, 1, 0])) (y := (fcd Try.f53 [1, 1, 1])) ?_
    refine V_draw Γ [] [0, 2, 3, 8, 20] mixed (by kernel_rfl) (evs ?_)
    all_goals (try with_reducible (repeat' (first | apply And.intro | intro _)))
    all_goals (try (first | with_reducible refine wa_id ?_ | exact True.intro | exact divw_fn _ _ (by omega) (by omega) (by omega) (by omega) | omega))
    refine WA_seq (x := (fcd Try.f53 [1, 1, 1, 0])) (y := (fcd Try.f53 [1, 1, 1, 1])) ?_
    refine WA_seq (x := (fcd Try.f53 [1, 1, 1, 0, 0])) (y := (fcd Try.f53 [1, 1, 1, 0, 1])) ?_
    refine V_regionX Γ Δ [] [0, 2, 3, 8, 20] (evs ?_)
    all_goals (try with_reducible (repeat' (first | apply And.intro | intro _)))
    all_goals (try (first | with_reducible refine wa_id ?_ | exact True.intro | omega))
    refine V_cond (evs ?_)
    refine ⟨fun hc => ?_, fun hc => ?_⟩
    · refine WA_seq (x := (fcd Try.f53 [1, 1, 1, 0, 1, 0, 0])) (y := (fcd Try.f53 [1, 1, 1, 0, 1, 0, 1])) ?_
      refine V_regionX Γ Δ [] [0, 2, 3, 8, 20] (evs ?_)
      all_goals (try with_reducible (repeat' (first | apply And.intro | intro _)))
      all_goals (try (first | with_reducible refine wa_id ?_ | exact True.intro | omega))
      refine V_ret (evs ?_)
      first | exact pe (p := zP) (mn1 hc) | exact pe (p := zP) (mn2 ‹_› hc) | exact pe (mn3 ‹_› hc)
    · refine WA_skip ?_
      refine WA_seq (x := (fcd Try.f53 [1, 1, 1, 1, 0])) (y := (fcd Try.f53 [1, 1, 1, 1, 1])) ?_
      refine V_draw Γ [] [0, 2, 3, 8, 20] mixed (by kernel_rfl) (evs ?_)
      all_goals (try with_reducible (repeat' (first | apply And.intro | intro _)))
      all_goals (try (first | with_reducible refine wa_id ?_ | exact True.intro | exact divw_fn _ _ (by omega) (by omega) (by omega) (by omega) | omega))
      refine V_ret (evs ?_)
      first | exact pe (p := zP) (mn1 hc) | exact pe (p := zP) (mn2 ‹_› hc) | exact pe (mn3 ‹_› hc)

end Go.S16

