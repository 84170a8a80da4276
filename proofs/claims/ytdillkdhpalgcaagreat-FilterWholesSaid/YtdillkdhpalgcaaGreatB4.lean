import Derived.Test.YtdillkdhpalgcaaGreatA1
set_option linter.unusedSimpArgs false
set_option linter.unusedVariables false
set_option linter.unusedSimpArgs false
set_option linter.unusedVariables false
namespace Go.S16
open Go.RowKit Go.Proofs Go.Eng Go.Rect
set_option maxHeartbeats 2000000 in
set_option maxRecDepth 100000 in
theorem pixel_fn (v : Vw) (a b c d e : D) (x y : Int) (hv : VIn v x y) : Eng.Fn Tryz.prog 37 [.bx (vwC v a b c d e), .i x, .i y] (.dat (pxD (pixF v x y))) := by
  have hb := hv.2.1
  have hx := hv.2.2.1
  have hy := hv.2.2.2
  have bx := cx_bd hb x
  have by_ := cy_bd hb y
  have ix := vin_ix hv
  have hz := (ichk0 hv.1).1
  unfold Z0 at hz
  unfold BdOk at hb
  have ex : cxI v x = min (max x v.bd.x) (v.bd.x + v.bd.w - 1) := rfl
  have ey : cyI v y = min (max y v.bd.y) (v.bd.y + v.bd.h - 1) := rfl
  refine Eng.Fn.by (fn := Tryz.f37) 75 [.cell 6 49] Tryz.func37 rfl Tryz.ntmps37 rfl (by simp) fun w0 G0 => ?_
  refine WA_seq (x := (fcd Tryz.f37 [0])) (y := (fcd Tryz.f37 [1])) ?_
  refine V_regionX Γ Δ [] [0, 1, 2, 6] (evs ?_)
  all_goals (try with_reducible (repeat' (first | apply And.intro | intro _)))
  all_goals (try (first | with_reducible refine wa_id ?_ | exact True.intro | omega))
  refine WA_seq (x := (fcd Tryz.f37 [1, 0])) (y := (fcd Tryz.f37 [1, 1])) ?_
  refine V_draw Γ [] [0, 1, 2, 6] mixed (by kernel_rfl) (evs ?_)
  (try simp (maxSteps := 10000000) (disch := omega) only [w64])
  simp only [← ex]
  all_goals (try with_reducible (repeat' (first | apply And.intro | intro _)))
  all_goals (try (first | with_reducible refine wa_id ?_ | exact True.intro | omega))
  refine WA_seq (x := (fcd Tryz.f37 [1, 1, 0])) (y := (fcd Tryz.f37 [1, 1, 1])) ?_
  refine V_draw Γ [] [0, 1, 2, 6] mixed (by kernel_rfl) (evs ?_)
  (try simp (maxSteps := 10000000) (disch := omega) only [w64])
  simp only [← ey]
  all_goals (try with_reducible (repeat' (first | apply And.intro | intro _)))
  all_goals (try (first | with_reducible refine wa_id ?_ | exact True.intro | omega))
  refine WA_seq (x := (fcd Tryz.f37 [1, 1, 1, 0])) (y := (fcd Tryz.f37 [1, 1, 1, 1])) ?_
  refine V_draw Γ [] [0, 1, 2, 6] mixed (by kernel_rfl) (evs ?_)
  (try simp (maxSteps := 10000000) (disch := omega) only [w64])
  all_goals (try with_reducible (repeat' (first | apply And.intro | intro _)))
  all_goals (try (first | with_reducible refine wa_id ?_ | exact True.intro | omega))
  refine V_ret (evs ?_)
  first | rfl | exact ⟨rfl, rfl, rfl, rfl⟩

set_option maxRecDepth 100000 in
theorem add_fn (s : Sm) (p : Px) (w : Int) (hs : SmOk s) (hp : validP p = true) (hw : 0 ≤ w) (hb : s.w + w ≤ 268435456) : Eng.FnX Tryz.prog 64 [.mb 67 [.dat (.i s.r), .dat (.i s.g), .dat (.i s.b), .dat (.i s.a), .dat (.i s.w)] [.dat (.i (addS s p w).r), .dat (.i (addS s p w).g), .dat (.i (addS s p w).b), .dat (.i (addS s p w).a), .dat (.i (addS s p w).w)], .ro (.dat (pxD p)), .ro (.dat (.i w))] (.tup []) := by
  obtain ⟨hs2, m, m1, m2, m3⟩ := add_ok hs hp hw hb
  have vb := vP_bd hp
  unfold SmOk at hs
  refine Eng.FnX.by (fn := Tryz.f64) 60 [] Tryz.func64 rfl Tryz.ntmps64 rfl (by simp) (by simp [PX.plains, PX.plain, AV.dats, Ent.plain, AV.datPs, AV.datP, D.plain]) rfl fun w0 X u => ?_
  refine WA_seq (x := (fcd Tryz.f64 [0])) (y := (fcd Tryz.f64 [1])) ?_
  refine V_regionX Γ Δ [] [0, 1, 2, 4, 6] (evs ?_)
  all_goals (try with_reducible (repeat' (first | apply And.intro | intro _)))
  all_goals (try (first | with_reducible refine wa_id ?_ | exact True.intro | omega))
  refine WA_seq (x := (fcd Tryz.f64 [1, 0])) (y := (fcd Tryz.f64 [1, 1])) ?_
  refine V_regionX Γ Δ [] [0, 1, 2, 4, 6] (evs ?_)
  (try simp (maxSteps := 10000000) (disch := omega) only [w64])
  all_goals (try with_reducible (repeat' (first | apply And.intro | intro _)))
  all_goals (try (first | with_reducible refine wa_id ?_ | exact True.intro | omega))
  refine WA_seq (x := (fcd Tryz.f64 [1, 1, 0])) (y := (fcd Tryz.f64 [1, 1, 1])) ?_
  refine V_draw Γ [] [0, 1, 2, 4, 6] mixed (by kernel_rfl) (evs ?_)
  (try simp (maxSteps := 10000000) (disch := omega) only [w64])
  all_goals (try with_reducible (repeat' (first | apply And.intro | intro _)))
  all_goals (try (first | with_reducible refine wa_id ?_ | exact True.intro | omega))
  refine WA_seq (x := (fcd Tryz.f64 [1, 1, 1, 0])) (y := (fcd Tryz.f64 [1, 1, 1, 1])) ?_
  refine V_draw Γ [] [0, 1, 2, 4, 6] mixed (by kernel_rfl) (evs ?_)
  (try simp (maxSteps := 10000000) (disch := omega) only [w64])
  all_goals (try with_reducible (repeat' (first | apply And.intro | intro _)))
  all_goals (try (first | with_reducible refine wa_id ?_ | exact True.intro | omega))
  refine WA_seq (x := (fcd Tryz.f64 [1, 1, 1, 1, 0])) (y := (fcd Tryz.f64 [1, 1, 1, 1, 1])) ?_
  refine V_draw Γ [] [0, 1, 2, 4, 6] mixed (by kernel_rfl) (evs ?_)
  (try simp (maxSteps := 10000000) (disch := omega) only [w64])
  all_goals (try with_reducible (repeat' (first | apply And.intro | intro _)))
  all_goals (try (first | with_reducible refine wa_id ?_ | exact True.intro | omega))
  refine WA_seq (x := (fcd Tryz.f64 [1, 1, 1, 1, 1, 0])) (y := (fcd Tryz.f64 [1, 1, 1, 1, 1, 1])) ?_
  refine V_regionX Γ Δ [] [0, 1, 2, 4, 6] (evs ?_)
  (try simp (maxSteps := 10000000) (disch := omega) only [w64])
  all_goals (try with_reducible (repeat' (first | apply And.intro | intro _)))
  all_goals (try (first | with_reducible refine wa_id ?_ | exact True.intro | omega))
  refine V_regionX Γ Δ [] [0, 1, 2, 4, 6] (evs ?_)
  (try simp (maxSteps := 10000000) (disch := omega) only [w64])
  all_goals (try with_reducible (repeat' (first | apply And.intro | intro _)))
  all_goals (try (first | with_reducible refine wa_id ?_ | exact True.intro | omega))
  try refine V_end (evs ?_)
  all_goals (first | rfl | exact ⟨rfl, rfl, rfl, rfl, rfl⟩)

set_option maxRecDepth 100000 in
theorem mean_fn (s : Sm) (hs : SmOk s) : Eng.Fn Tryz.prog 31 [.bx (smC s)] (.dat (pxD (meanS s))) := by
  unfold SmOk at hs
  have hw : s.a = 0 ∨ 0 < s.w := by omega
  refine Eng.Fn.by (fn := Tryz.f31) 51 [.cell 2 49] Tryz.func31 rfl Tryz.ntmps31 rfl (by simp) fun w0 G0 => ?_
  refine WA_seq (x := (fcd Tryz.f31 [0])) (y := (fcd Tryz.f31 [1])) ?_
  refine V_regionX Γ Δ [] [0, 2, 3, 8, 20] (evs ?_)
  all_goals (try with_reducible (repeat' (first | apply And.intro | intro _)))
  all_goals (try (first | with_reducible refine wa_id ?_ | exact True.intro | omega))
  refine WA_seq (x := (fcd Tryz.f31 [1, 0])) (y := (fcd Tryz.f31 [1, 1])) ?_
  refine WA_seq (x := (fcd Tryz.f31 [1, 0, 0])) (y := (fcd Tryz.f31 [1, 0, 1])) ?_
  refine V_regionX Γ Δ [] [0, 2, 3, 8, 20] (evs ?_)
  all_goals (try with_reducible (repeat' (first | apply And.intro | intro _)))
  all_goals (try (first | with_reducible refine wa_id ?_ | exact True.intro | omega))
  refine V_cond (evs ?_)
  refine ⟨fun hc => ?_, fun hc => ?_⟩
  · refine WA_seq (x := (fcd Tryz.f31 [1, 0, 1, 0, 0])) (y := (fcd Tryz.f31 [1, 0, 1, 0, 1])) ?_
    refine V_regionX Γ Δ [] [0, 2, 3, 8, 20] (evs ?_)
    all_goals (try with_reducible (repeat' (first | apply And.intro | intro _)))
    all_goals (try (first | with_reducible refine wa_id ?_ | exact True.intro | omega))
    refine V_ret (evs ?_)
    first | exact pe (p := zP) (mn1 hc) | exact pe (p := zP) (mn2 ‹_› hc) | exact pe (mn3 ‹_› hc)
  · refine WA_skip ?_
    refine WA_seq (x := (fcd Tryz.f31 [1, 1, 0])) (y := (fcd Tryz.f31 [1, 1, 1])) ?_
    refine V_draw Γ [] [0, 2, 3, 8, 20] mixed (by kernel_rfl) (evs ?_)
    all_goals (try with_reducible (repeat' (first | apply And.intro | intro _)))
    all_goals (try (first | with_reducible refine wa_id ?_ | exact True.intro | exact divw_fn _ _ (by omega) (by omega) (by omega) (by omega) | omega))
    refine WA_seq (x := (fcd Tryz.f31 [1, 1, 1, 0])) (y := (fcd Tryz.f31 [1, 1, 1, 1])) ?_
    refine WA_seq (x := (fcd Tryz.f31 [1, 1, 1, 0, 0])) (y := (fcd Tryz.f31 [1, 1, 1, 0, 1])) ?_
    refine V_regionX Γ Δ [] [0, 2, 3, 8, 20] (evs ?_)
    all_goals (try with_reducible (repeat' (first | apply And.intro | intro _)))
    all_goals (try (first | with_reducible refine wa_id ?_ | exact True.intro | omega))
    refine V_cond (evs ?_)
    refine ⟨fun hc => ?_, fun hc => ?_⟩
    · refine WA_seq (x := (fcd Tryz.f31 [1, 1, 1, 0, 1, 0, 0])) (y := (fcd Tryz.f31 [1, 1, 1, 0, 1, 0, 1])) ?_
      refine V_regionX Γ Δ [] [0, 2, 3, 8, 20] (evs ?_)
      all_goals (try with_reducible (repeat' (first | apply And.intro | intro _)))
      all_goals (try (first | with_reducible refine wa_id ?_ | exact True.intro | omega))
      refine V_ret (evs ?_)
      first | exact pe (p := zP) (mn1 hc) | exact pe (p := zP) (mn2 ‹_› hc) | exact pe (mn3 ‹_› hc)
    · refine WA_skip ?_
      refine WA_seq (x := (fcd Tryz.f31 [1, 1, 1, 1, 0])) (y := (fcd Tryz.f31 [1, 1, 1, 1, 1])) ?_
      refine V_draw Γ [] [0, 2, 3, 8, 20] mixed (by kernel_rfl) (evs ?_)
      all_goals (try with_reducible (repeat' (first | apply And.intro | intro _)))
      all_goals (try (first | with_reducible refine wa_id ?_ | exact True.intro | exact divw_fn _ _ (by omega) (by omega) (by omega) (by omega) | omega))
      refine V_ret (evs ?_)
      first | exact pe (p := zP) (mn1 hc) | exact pe (p := zP) (mn2 ‹_› hc) | exact pe (mn3 ‹_› hc)

end Go.S16

set_option linter.unusedSimpArgs false
set_option linter.unusedVariables false
namespace Go.S16
open Go.RowKit Go.Proofs Go.Eng Go.Rect
set_option maxHeartbeats 4000000 in
set_option maxRecDepth 100000 in
theorem square_fn (v : Vw) (wt : List Int) (b c d e : D) (x y : Int) (hv : SqH v wt x y) : Eng.Fn Tryz.prog 30 [.bx (vwC v (.sl 1 (wt.map iC)) b c d e), .i x, .i y] (.dat (smD (sqS v wt x y))) := by
  have hr := hv.1
  have hx := hv.2.2.1
  have hl := hv.2.1.len
  refine Eng.Fn.by (fn := Tryz.f30) 58 [.cell 6 67] Tryz.func30 rfl Tryz.ntmps30 rfl (by simp) fun w0 G0 => ?_
  refine WA_seq (x := (fcd Tryz.f30 [0])) (y := (fcd Tryz.f30 [1])) ?_
  refine V_regionX Γ Δ [] [0, 1, 2, 6, 7, 8, 9, 10, 19, 26] (evs ?_)
  all_goals (try with_reducible (repeat' (first | apply And.intro | intro _)))
  all_goals (try (first | with_reducible refine wa_id ?_ | exact True.intro | omega))
  refine WA_seq (x := (fcd Tryz.f30 [1, 0])) (y := (fcd Tryz.f30 [1, 1])) ?_
  refine V_regionX Γ Δ [] [0, 1, 2, 6, 7, 8, 9, 10, 19, 26] (evs ?_)
  all_goals (try with_reducible (repeat' (first | apply And.intro | intro _)))
  all_goals (try (first | with_reducible refine wa_id ?_ | exact True.intro | omega))
  refine WA_seq (x := (fcd Tryz.f30 [1, 1, 0])) (y := (fcd Tryz.f30 [1, 1, 1])) ?_
  refine V_regionX Γ Δ [] [0, 1, 2, 6, 7, 8, 9, 10, 19, 26] (evs ?_)
  all_goals (try with_reducible (repeat' (first | apply And.intro | intro _)))
  all_goals (try (first | with_reducible refine wa_id ?_ | exact True.intro | omega))
  refine WA_seq (x := (fcd Tryz.f30 [1, 1, 1, 0])) (y := (fcd Tryz.f30 [1, 1, 1, 1])) ?_
  refine WA_seq (x := (fcd Tryz.f30 [1, 1, 1, 0, 0])) (y := (fcd Tryz.f30 [1, 1, 1, 0, 1])) ?_
  refine V_regionX Γ Δ [] [0, 1, 2, 6, 7, 8, 9, 10, 19, 26] (evs ?_)
  (try simp (maxSteps := 10000000) (disch := omega) only [w64])
  all_goals (try with_reducible (repeat' (first | apply And.intro | intro _)))
  all_goals (try (first | with_reducible refine wa_id ?_ | exact True.intro | omega))
  refine WA_block (c := (fcd Tryz.f30 [1, 1, 1, 0, 1, 0])) ?_
  refine V_loop (c := (fcd Tryz.f30 [1, 1, 1, 0, 1, 0, 0])) (α := Nat) [9, 10, 19, 26] [7, 13600, 13601, 13602, 13603, 15600, 15601, 15602, 15603] (fun m => [(9, .dat (.i ((m : Int) - v.rad)))]) (fun m => [(7, some (true, .box 67 [.dat (.i (sqK v wt x y m 0).r), .dat (.i (sqK v wt x y m 0).g), .dat (.i (sqK v wt x y m 0).b), .dat (.i (sqK v wt x y m 0).a), .dat (.i (sqK v wt x y m 0).w)]))]) (fun m => m ≤ (2 * v.rad + 1).toNat) (fun m => (2 * v.rad + 1).toNat - m) 0 [] ?_ (evs ?_) ?_
  · exact Nat.zero_le _
  · (try with_reducible (repeat' (first | apply And.intro | intro _)))
    all_goals (first | exact True.intro | omega | (first | rfl | (simp; done)))
  · intro m hM
    refine WA_seq (x := (fcd Tryz.f30 [1, 1, 1, 0, 1, 0, 0, 0])) (y := (fcd Tryz.f30 [1, 1, 1, 0, 1, 0, 0, 1])) ?_
    refine WA_seq (x := (fcd Tryz.f30 [1, 1, 1, 0, 1, 0, 0, 0, 0])) (y := (fcd Tryz.f30 [1, 1, 1, 0, 1, 0, 0, 0, 1])) ?_
    refine V_regionX Γ Δ [] [0, 1, 2, 6, 7, 8, 9, 10, 19, 26] (evs ?_)
    all_goals (try with_reducible (repeat' (first | apply And.intro | intro _)))
    all_goals (try (first | with_reducible refine wa_id ?_ | exact True.intro | omega))
    refine V_cond (evs ?_)
    refine ⟨fun hc => ?_, fun hc => ?_⟩
    · refine WA_skip ?_
      refine WA_seq (x := (fcd Tryz.f30 [1, 1, 1, 0, 1, 0, 0, 1, 0])) (y := (fcd Tryz.f30 [1, 1, 1, 0, 1, 0, 0, 1, 1])) ?_
      refine WA_block (c := (fcd Tryz.f30 [1, 1, 1, 0, 1, 0, 0, 1, 0, 0])) ?_
      refine WA_seq (x := (fcd Tryz.f30 [1, 1, 1, 0, 1, 0, 0, 1, 0, 0, 0])) (y := (fcd Tryz.f30 [1, 1, 1, 0, 1, 0, 0, 1, 0, 0, 1])) ?_
      refine V_regionX Γ Δ [] [0, 1, 2, 6, 7, 8, 9, 10, 19, 26] (evs ?_)
      (try simp (maxSteps := 10000000) (disch := omega) only [w64])
      all_goals (try with_reducible (repeat' (first | apply And.intro | intro _)))
      all_goals (try (first | with_reducible refine wa_id ?_ | exact True.intro | omega))
      refine WA_block (c := (fcd Tryz.f30 [1, 1, 1, 0, 1, 0, 0, 1, 0, 0, 1, 0])) ?_
      refine V_loop (c := (fcd Tryz.f30 [1, 1, 1, 0, 1, 0, 0, 1, 0, 0, 1, 0, 0])) (α := Nat) [10, 26] [7, 13600, 13601, 13602, 13603, 15600, 15601, 15602, 15603] (fun k => [(10, .dat (.i ((k : Int) - v.rad)))]) (fun k => [(7, some (true, .box 67 [.dat (.i (sqK v wt x y m k).r), .dat (.i (sqK v wt x y m k).g), .dat (.i (sqK v wt x y m k).b), .dat (.i (sqK v wt x y m k).a), .dat (.i (sqK v wt x y m k).w)]))]) (fun k => k ≤ (2 * v.rad + 1).toNat) (fun k => (2 * v.rad + 1).toNat - k) 0 [] ?_ (evs ?_) ?_
      · exact Nat.zero_le _
      · (try with_reducible (repeat' (first | apply And.intro | intro _)))
        all_goals (first | exact True.intro | omega | (first | rfl | (simp; done)))
      · intro k hK
        refine WA_seq (x := (fcd Tryz.f30 [1, 1, 1, 0, 1, 0, 0, 1, 0, 0, 1, 0, 0, 0])) (y := (fcd Tryz.f30 [1, 1, 1, 0, 1, 0, 0, 1, 0, 0, 1, 0, 0, 1])) ?_
        refine WA_seq (x := (fcd Tryz.f30 [1, 1, 1, 0, 1, 0, 0, 1, 0, 0, 1, 0, 0, 0, 0])) (y := (fcd Tryz.f30 [1, 1, 1, 0, 1, 0, 0, 1, 0, 0, 1, 0, 0, 0, 1])) ?_
        refine V_regionX Γ Δ [] [0, 1, 2, 6, 7, 8, 9, 10, 19, 26] (evs ?_)
        all_goals (try with_reducible (repeat' (first | apply And.intro | intro _)))
        all_goals (try (first | with_reducible refine wa_id ?_ | exact True.intro | omega))
        refine V_cond (evs ?_)
        refine ⟨fun hc => ?_, fun hc => ?_⟩
        · refine WA_skip ?_
          refine WA_seq (x := (fcd Tryz.f30 [1, 1, 1, 0, 1, 0, 0, 1, 0, 0, 1, 0, 0, 1, 0])) (y := (fcd Tryz.f30 [1, 1, 1, 0, 1, 0, 0, 1, 0, 0, 1, 0, 0, 1, 1])) ?_
          refine WA_block (c := (fcd Tryz.f30 [1, 1, 1, 0, 1, 0, 0, 1, 0, 0, 1, 0, 0, 1, 0, 0])) ?_
          refine V_drawL Γ Δ [] [0, 1, 2, 6, 7, 8, 9, 10, 19, 26] mixed (by kernel_rfl) (evs ?_)
          (try simp (maxSteps := 10000000) (disch := omega) only [w64])
          have hm : m < (2 * v.rad + 1).toNat := by omega
          have hk : k < (2 * v.rad + 1).toNat := by omega
          have vi := sq_vin hv hm hk
          have vp := pix_ok vi
          have so := sq_all hv hm (k := k) (by omega)
          have sw := sq_w hv hm hk
          have sw1 := sw.1
          have sw2 := sw.2
          have so2 := so
          unfold SmOk at so2
          simp only [show (v.rad + ((k : Int) - v.rad)).toNat = k from by omega, show (v.rad + ((m : Int) - v.rad)).toNat = m from by omega]
          (try simp (maxSteps := 10000000) (disch := omega) only [w64])
          all_goals (try with_reducible (repeat' (first | apply And.intro | intro _)))
          all_goals (try (first | with_reducible refine wa_id ?_ | exact True.intro | exact pixel_fn ⟨⟨_, _, _⟩, ⟨_, _⟩, ⟨_, _, _, _⟩, _, _, _⟩ _ _ _ _ _ _ _ (by assumption) | exact add_fn _ _ _ (by assumption) (by assumption) (by assumption) (by assumption) | omega))
          refine V_regionX Γ Δ [] [0, 1, 2, 6, 7, 8, 9, 10, 19, 26] (evs ?_)
          (try simp (maxSteps := 10000000) (disch := omega) only [w64])
          all_goals (try with_reducible (repeat' (first | apply And.intro | intro _)))
          all_goals (try (first | with_reducible refine wa_id ?_ | exact True.intro | omega))
          refine V_next [] (k + 1) (evs ?_) ?_ ?_
          all_goals (try with_reducible (repeat' (first | apply And.intro | intro _)))
          all_goals (first | exact True.intro | omega | (first | (push_cast; omega) | (rw [sqK_succ]; done)))
        · refine V_exit (evs ?_)
          refine V_regionX Γ Δ [] [0, 1, 2, 6, 7, 8, 9, 10, 19, 26] (evs ?_)
          (try simp (maxSteps := 10000000) (disch := omega) only [w64])
          all_goals (try with_reducible (repeat' (first | apply And.intro | intro _)))
          all_goals (try (first | with_reducible refine wa_id ?_ | exact True.intro | omega))
          refine V_next [] (m + 1) (evs ?_) ?_ ?_
          all_goals (try with_reducible (repeat' (first | apply And.intro | intro _)))
          all_goals (first | exact True.intro | omega | (first | (push_cast; omega) | (rw [← sqK_over v wt x y m k (by omega)])))
    · refine V_exit (evs ?_)
      refine WA_seq (x := (fcd Tryz.f30 [1, 1, 1, 1, 0])) (y := (fcd Tryz.f30 [1, 1, 1, 1, 1])) ?_
      refine V_regionX Γ Δ [] [0, 1, 2, 6, 7, 8, 9, 10, 19, 26] (evs ?_)
      all_goals (try with_reducible (repeat' (first | apply And.intro | intro _)))
      all_goals (try (first | with_reducible refine wa_id ?_ | exact True.intro | omega))
      refine V_ret (evs ?_)
      first | rfl | (have em : m = (2 * v.rad + 1).toNat := by omega); subst em; first | rfl | exact ⟨rfl, rfl, rfl, rfl, rfl⟩

theorem bin_fn (n : Int) (hn : 0 ≤ n ∧ n ≤ 14) : Eng.Fn Tryz.prog 29 [.i n] (.own 3 1 ((tab (n.toNat + 1) (pF n.toNat)).map iC)) := by
  obtain ⟨k, rfl⟩ : ∃ k : Nat, n = (k : Int) := ⟨n.toNat, by omega⟩
  have hk : k ≤ 14 := by omega
  simp only [Int.toNat_natCast]
  refine Eng.Fn.by (fn := Tryz.f29) 31 [.tmp 2] Tryz.func29 rfl Tryz.ntmps29 rfl (by simp) fun w0 G0 => ?_
  refine WA_seq (x := (fcd Tryz.f29 [0])) (y := (fcd Tryz.f29 [1])) ?_
  refine V_regionX Γ Δ [] [0, 2, 3, 4, 12] (evs ?_)
  all_goals (try with_reducible (repeat' (first | apply And.intro | intro _)))
  all_goals (try (first | with_reducible refine wa_id ?_ | exact True.intro | omega))
  refine WA_seq (x := (fcd Tryz.f29 [1, 0])) (y := (fcd Tryz.f29 [1, 1])) ?_
  refine V_regionX Γ Δ [] [0, 2, 3, 4, 12] (evs ?_)
  (try simp (maxSteps := 10000000) (disch := omega) only [w64])
  simp only [toN1]
  all_goals (try with_reducible (repeat' (first | apply And.intro | intro _)))
  all_goals (try (first | with_reducible refine wa_id ?_ | exact True.intro | omega))
  refine WA_seq (x := (fcd Tryz.f29 [1, 1, 0])) (y := (fcd Tryz.f29 [1, 1, 1])) ?_
  refine V_regionX Γ Δ [] [0, 2, 3, 4, 12] (evs ?_)
  all_goals (try with_reducible (repeat' (first | apply And.intro | intro _)))
  all_goals (try (first | with_reducible refine wa_id ?_ | exact True.intro | omega))
  refine WA_seq (x := (fcd Tryz.f29 [1, 1, 1, 0])) (y := (fcd Tryz.f29 [1, 1, 1, 1])) ?_
  refine WA_seq (x := (fcd Tryz.f29 [1, 1, 1, 0, 0])) (y := (fcd Tryz.f29 [1, 1, 1, 0, 1])) ?_
  refine V_regionX Γ Δ [] [0, 2, 3, 4, 12] (evs ?_)
  all_goals (try with_reducible (repeat' (first | apply And.intro | intro _)))
  all_goals (try (first | with_reducible refine wa_id ?_ | exact True.intro | omega))
  refine WA_block (c := (fcd Tryz.f29 [1, 1, 1, 0, 1, 0])) ?_
  refine V_loop (c := (fcd Tryz.f29 [1, 1, 1, 0, 1, 0, 0])) (α := Nat) [4, 12] [7] (fun i => [(4, .dat (.i (i : Int)))]) (fun i => [(7, some (true, .arr 3 1 ((fil (k + 1) (pF k) i).map iC)))]) (fun i => 1 ≤ i ∧ i ≤ k + 1) (fun i => k + 1 - i) 1 [] ?_ (evs ?_) ?_
  · omega
  · (try with_reducible (repeat' (first | apply And.intro | intro _)))
    all_goals (first | exact True.intro | omega | (first | exact bin_1 hk | rfl))
  · intro i hI
    refine WA_seq (x := (fcd Tryz.f29 [1, 1, 1, 0, 1, 0, 0, 0])) (y := (fcd Tryz.f29 [1, 1, 1, 0, 1, 0, 0, 1])) ?_
    refine WA_seq (x := (fcd Tryz.f29 [1, 1, 1, 0, 1, 0, 0, 0, 0])) (y := (fcd Tryz.f29 [1, 1, 1, 0, 1, 0, 0, 0, 1])) ?_
    refine V_regionX Γ Δ [] [0, 2, 3, 4, 12] (evs ?_)
    all_goals (try with_reducible (repeat' (first | apply And.intro | intro _)))
    all_goals (try (first | with_reducible refine wa_id ?_ | exact True.intro | omega))
    refine V_cond (evs ?_)
    refine ⟨fun hc => ?_, fun hc => ?_⟩
    · refine WA_skip ?_
      refine WA_seq (x := (fcd Tryz.f29 [1, 1, 1, 0, 1, 0, 0, 1, 0])) (y := (fcd Tryz.f29 [1, 1, 1, 0, 1, 0, 0, 1, 1])) ?_
      refine WA_block (c := (fcd Tryz.f29 [1, 1, 1, 0, 1, 0, 0, 1, 0, 0])) ?_
      refine V_regionX Γ Δ [] [0, 2, 3, 4, 12] (evs ?_)
      (try simp (maxSteps := 10000000) (disch := omega) only [w64])
      simp only [bnS hk hI.1 ‹(i : Int) ≤ _›]
      have hpb := pas_bd hk i
      (try simp (maxSteps := 10000000) (disch := omega) only [w64])
      all_goals (try with_reducible (repeat' (first | apply And.intro | intro _)))
      all_goals (try (first | with_reducible refine wa_id ?_ | exact True.intro | omega))
      refine V_regionX Γ Δ [] [0, 2, 3, 4, 12] (evs ?_)
      all_goals (try with_reducible (repeat' (first | apply And.intro | intro _)))
      all_goals (try (first | with_reducible refine wa_id ?_ | exact True.intro | omega))
      refine V_next [] (i + 1) (evs ?_) ?_ ?_
      all_goals (try with_reducible (repeat' (first | apply And.intro | intro _)))
      all_goals (first | exact True.intro | omega | (first | exact w64l (n := 20) (by omega) (by omega) | exact fil_setI rfl))
    · refine V_exit (evs ?_)
      refine WA_seq (x := (fcd Tryz.f29 [1, 1, 1, 1, 0])) (y := (fcd Tryz.f29 [1, 1, 1, 1, 1])) ?_
      refine V_regionX Γ Δ [] [0, 2, 3, 4, 12] (evs ?_)
      all_goals (try with_reducible (repeat' (first | apply And.intro | intro _)))
      all_goals (try (first | with_reducible refine wa_id ?_ | exact True.intro | omega))
      refine V_ret (evs ?_)
      first | (rw [fil_all (by omega)]; done) | (rw [fil_all (by omega)]; exact ⟨rfl, rfl⟩)

theorem shows_fn (i : Im) (o : Pt) (n : Rc) (hi : ichkE i = 0) (hn : -1048576 ≤ n.x ∧ n.x ≤ 1048576 ∧ 0 ≤ n.w ∧ n.w ≤ 2097152 ∧ -1048576 ≤ n.y ∧ n.y ≤ 1048576 ∧ 0 ≤ n.h ∧ n.h ≤ 2097152) : Eng.Fn Tryz.prog 13 [imD i, ptD o, rcD n] (.dat (.b (showB i o n))) := by
  have hz := (ichk0 hi).1
  unfold Z0 at hz
  refine Eng.Fn.by (fn := Tryz.f13) 45 [.tmp 6] Tryz.func13 rfl Tryz.ntmps13 rfl (by simp) fun w0 G0 => ?_
  refine WA_seq (x := (fcd Tryz.f13 [0])) (y := (fcd Tryz.f13 [1])) ?_
  refine V_regionX Γ Δ [] [0, 1, 2, 3, 4, 5, 6] (evs ?_)
  all_goals (try with_reducible (repeat' (first | apply And.intro | intro _)))
  all_goals (try (first | with_reducible refine wa_id ?_ | exact True.intro | omega))
  refine WA_seq (x := (fcd Tryz.f13 [1, 0])) (y := (fcd Tryz.f13 [1, 1])) ?_
  refine V_regionX Γ Δ [] [0, 1, 2, 3, 4, 5, 6] (evs ?_)
  (try simp (maxSteps := 10000000) (disch := omega) only [w64])
  all_goals (try with_reducible (repeat' (first | apply And.intro | intro _)))
  all_goals (try (first | with_reducible refine wa_id ?_ | exact True.intro | omega))
  refine V_ret (evs ?_)
  first | rfl

end Go.S16

