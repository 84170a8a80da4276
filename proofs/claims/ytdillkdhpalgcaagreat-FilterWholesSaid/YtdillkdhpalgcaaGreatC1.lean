import Derived.Test.YtdillkdhpalgcaaGreatF16
set_option linter.unusedSimpArgs false
set_option linter.unusedVariables false
set_option linter.unusedSimpArgs false
set_option linter.unusedVariables false
namespace Go.S16
open Go.RowKit Go.Proofs Go.Eng Go.Rect
theorem smax_fn (l : List Int) (hl : 0 < l.length) : Eng.Fn Tryz.prog 69 [.sl 1 (l.map iC)] (.dat (.i (maxO l))) := by
  refine Eng.Fn.by (fn := Tryz.f69) 25 [.tmp 2] Tryz.func69 rfl Tryz.ntmps69 rfl (by simp) fun w0 G0 => ?_
  refine WA_seq (x := (fcd Tryz.f69 [0])) (y := (fcd Tryz.f69 [1])) ?_
  refine V_regionX Γ Δ [] [0, 2, 3, 4, 7, 15] (evs ?_)
  all_goals (try with_reducible (repeat' (first | apply And.intro | intro _)))
  all_goals (try (first | with_reducible refine wa_id ?_ | exact True.intro | omega))
  refine WA_seq (x := (fcd Tryz.f69 [1, 0])) (y := (fcd Tryz.f69 [1, 1])) ?_
  refine WA_seq (x := (fcd Tryz.f69 [1, 0, 0])) (y := (fcd Tryz.f69 [1, 0, 1])) ?_
  refine V_regionX Γ Δ [] [0, 2, 3, 4, 7, 15] (evs ?_)
  all_goals (try with_reducible (repeat' (first | apply And.intro | intro _)))
  all_goals (try (first | with_reducible refine wa_id ?_ | exact True.intro | omega))
  refine V_cond (evs ?_)
  refine ⟨fun hc => by exact absurd hc (by omega), fun hc => ?_⟩
  refine WA_skip ?_
  refine WA_seq (x := (fcd Tryz.f69 [1, 1, 0])) (y := (fcd Tryz.f69 [1, 1, 1])) ?_
  refine V_regionX Γ Δ [] [0, 2, 3, 4, 7, 15] (evs ?_)
  all_goals (try with_reducible (repeat' (first | apply And.intro | intro _)))
  all_goals (try (first | with_reducible refine wa_id ?_ | exact True.intro | omega))
  refine WA_seq (x := (fcd Tryz.f69 [1, 1, 1, 0])) (y := (fcd Tryz.f69 [1, 1, 1, 1])) ?_
  refine WA_seq (x := (fcd Tryz.f69 [1, 1, 1, 0, 0])) (y := (fcd Tryz.f69 [1, 1, 1, 0, 1])) ?_
  refine V_regionX Γ Δ [] [0, 2, 3, 4, 7, 15] (evs ?_)
  all_goals (try with_reducible (repeat' (first | apply And.intro | intro _)))
  all_goals (try (first | with_reducible refine wa_id ?_ | exact True.intro | omega))
  refine WA_block (c := (fcd Tryz.f69 [1, 1, 1, 0, 1, 0])) ?_
  refine V_loop (c := (fcd Tryz.f69 [1, 1, 1, 0, 1, 0, 0])) (α := Nat) [3, 4, 15] [] (fun k => [(4, .dat (.i (k : Int))), (3, .dat (.i ((l.take k).foldl max (l.getD 0 0))))]) (fun k => []) (fun k => 1 ≤ k ∧ k ≤ l.length) (fun k => l.length - k) 1 [] ?_ (evs ?_) ?_
  · omega
  · (try with_reducible (repeat' (first | apply And.intro | intro _)))
    all_goals (first | exact True.intro | omega | (first | exact mx1 hl | rfl))
  · intro k hI
    refine WA_seq (x := (fcd Tryz.f69 [1, 1, 1, 0, 1, 0, 0, 0])) (y := (fcd Tryz.f69 [1, 1, 1, 0, 1, 0, 0, 1])) ?_
    refine WA_seq (x := (fcd Tryz.f69 [1, 1, 1, 0, 1, 0, 0, 0, 0])) (y := (fcd Tryz.f69 [1, 1, 1, 0, 1, 0, 0, 0, 1])) ?_
    refine V_regionX Γ Δ [] [0, 2, 3, 4, 7, 15] (evs ?_)
    all_goals (try with_reducible (repeat' (first | apply And.intro | intro _)))
    all_goals (try (first | with_reducible refine wa_id ?_ | exact True.intro | omega))
    refine V_cond (evs ?_)
    refine ⟨fun hc => ?_, fun hc => ?_⟩
    · refine WA_skip ?_
      refine WA_seq (x := (fcd Tryz.f69 [1, 1, 1, 0, 1, 0, 0, 1, 0])) (y := (fcd Tryz.f69 [1, 1, 1, 0, 1, 0, 0, 1, 1])) ?_
      refine WA_block (c := (fcd Tryz.f69 [1, 1, 1, 0, 1, 0, 0, 1, 0, 0])) ?_
      refine V_regionX Γ Δ [] [0, 2, 3, 4, 7, 15] (evs ?_)
      all_goals (try with_reducible (repeat' (first | apply And.intro | intro _)))
      all_goals (try (first | with_reducible refine wa_id ?_ | exact True.intro | omega))
      refine V_regionX Γ Δ [] [0, 2, 3, 4, 7, 15] (evs ?_)
      all_goals (try with_reducible (repeat' (first | apply And.intro | intro _)))
      all_goals (try (first | with_reducible refine wa_id ?_ | exact True.intro | omega))
      refine V_next [] (k + 1) (evs ?_) ?_ ?_
      all_goals (try with_reducible (repeat' (first | apply And.intro | intro _)))
      all_goals (first | exact True.intro | omega | (first | exact w64l ‹(k : Int) < _› ‹l.length ≤ 281474976710656› | exact mx2 ‹(k : Int) < _›))
    · refine V_exit (evs ?_)
      refine WA_seq (x := (fcd Tryz.f69 [1, 1, 1, 1, 0])) (y := (fcd Tryz.f69 [1, 1, 1, 1, 1])) ?_
      refine V_regionX Γ Δ [] [0, 2, 3, 4, 7, 15] (evs ?_)
      all_goals (try with_reducible (repeat' (first | apply And.intro | intro _)))
      all_goals (try (first | with_reducible refine wa_id ?_ | exact True.intro | omega))
      refine V_ret (evs ?_)
      first | exact mx3 hc

theorem smin_fn (l : List Int) (hl : 0 < l.length) : Eng.Fn Tryz.prog 70 [.sl 1 (l.map iC)] (.dat (.i (minO l))) := by
  refine Eng.Fn.by (fn := Tryz.f70) 25 [.tmp 2] Tryz.func70 rfl Tryz.ntmps70 rfl (by simp) fun w0 G0 => ?_
  refine WA_seq (x := (fcd Tryz.f70 [0])) (y := (fcd Tryz.f70 [1])) ?_
  refine V_regionX Γ Δ [] [0, 2, 3, 4, 7, 15] (evs ?_)
  all_goals (try with_reducible (repeat' (first | apply And.intro | intro _)))
  all_goals (try (first | with_reducible refine wa_id ?_ | exact True.intro | omega))
  refine WA_seq (x := (fcd Tryz.f70 [1, 0])) (y := (fcd Tryz.f70 [1, 1])) ?_
  refine WA_seq (x := (fcd Tryz.f70 [1, 0, 0])) (y := (fcd Tryz.f70 [1, 0, 1])) ?_
  refine V_regionX Γ Δ [] [0, 2, 3, 4, 7, 15] (evs ?_)
  all_goals (try with_reducible (repeat' (first | apply And.intro | intro _)))
  all_goals (try (first | with_reducible refine wa_id ?_ | exact True.intro | omega))
  refine V_cond (evs ?_)
  refine ⟨fun hc => by exact absurd hc (by omega), fun hc => ?_⟩
  refine WA_skip ?_
  refine WA_seq (x := (fcd Tryz.f70 [1, 1, 0])) (y := (fcd Tryz.f70 [1, 1, 1])) ?_
  refine V_regionX Γ Δ [] [0, 2, 3, 4, 7, 15] (evs ?_)
  all_goals (try with_reducible (repeat' (first | apply And.intro | intro _)))
  all_goals (try (first | with_reducible refine wa_id ?_ | exact True.intro | omega))
  refine WA_seq (x := (fcd Tryz.f70 [1, 1, 1, 0])) (y := (fcd Tryz.f70 [1, 1, 1, 1])) ?_
  refine WA_seq (x := (fcd Tryz.f70 [1, 1, 1, 0, 0])) (y := (fcd Tryz.f70 [1, 1, 1, 0, 1])) ?_
  refine V_regionX Γ Δ [] [0, 2, 3, 4, 7, 15] (evs ?_)
  all_goals (try with_reducible (repeat' (first | apply And.intro | intro _)))
  all_goals (try (first | with_reducible refine wa_id ?_ | exact True.intro | omega))
  refine WA_block (c := (fcd Tryz.f70 [1, 1, 1, 0, 1, 0])) ?_
  refine V_loop (c := (fcd Tryz.f70 [1, 1, 1, 0, 1, 0, 0])) (α := Nat) [3, 4, 15] [] (fun k => [(4, .dat (.i (k : Int))), (3, .dat (.i ((l.take k).foldl min (l.getD 0 0))))]) (fun k => []) (fun k => 1 ≤ k ∧ k ≤ l.length) (fun k => l.length - k) 1 [] ?_ (evs ?_) ?_
  · omega
  · (try with_reducible (repeat' (first | apply And.intro | intro _)))
    all_goals (first | exact True.intro | omega | (first | exact mi1 hl | rfl))
  · intro k hI
    refine WA_seq (x := (fcd Tryz.f70 [1, 1, 1, 0, 1, 0, 0, 0])) (y := (fcd Tryz.f70 [1, 1, 1, 0, 1, 0, 0, 1])) ?_
    refine WA_seq (x := (fcd Tryz.f70 [1, 1, 1, 0, 1, 0, 0, 0, 0])) (y := (fcd Tryz.f70 [1, 1, 1, 0, 1, 0, 0, 0, 1])) ?_
    refine V_regionX Γ Δ [] [0, 2, 3, 4, 7, 15] (evs ?_)
    all_goals (try with_reducible (repeat' (first | apply And.intro | intro _)))
    all_goals (try (first | with_reducible refine wa_id ?_ | exact True.intro | omega))
    refine V_cond (evs ?_)
    refine ⟨fun hc => ?_, fun hc => ?_⟩
    · refine WA_skip ?_
      refine WA_seq (x := (fcd Tryz.f70 [1, 1, 1, 0, 1, 0, 0, 1, 0])) (y := (fcd Tryz.f70 [1, 1, 1, 0, 1, 0, 0, 1, 1])) ?_
      refine WA_block (c := (fcd Tryz.f70 [1, 1, 1, 0, 1, 0, 0, 1, 0, 0])) ?_
      refine V_regionX Γ Δ [] [0, 2, 3, 4, 7, 15] (evs ?_)
      all_goals (try with_reducible (repeat' (first | apply And.intro | intro _)))
      all_goals (try (first | with_reducible refine wa_id ?_ | exact True.intro | omega))
      refine V_regionX Γ Δ [] [0, 2, 3, 4, 7, 15] (evs ?_)
      all_goals (try with_reducible (repeat' (first | apply And.intro | intro _)))
      all_goals (try (first | with_reducible refine wa_id ?_ | exact True.intro | omega))
      refine V_next [] (k + 1) (evs ?_) ?_ ?_
      all_goals (try with_reducible (repeat' (first | apply And.intro | intro _)))
      all_goals (first | exact True.intro | omega | (first | exact w64l ‹(k : Int) < _› ‹l.length ≤ 281474976710656› | exact mi2 ‹(k : Int) < _›))
    · refine V_exit (evs ?_)
      refine WA_seq (x := (fcd Tryz.f70 [1, 1, 1, 1, 0])) (y := (fcd Tryz.f70 [1, 1, 1, 1, 1])) ?_
      refine V_regionX Γ Δ [] [0, 2, 3, 4, 7, 15] (evs ?_)
      all_goals (try with_reducible (repeat' (first | apply And.intro | intro _)))
      all_goals (try (first | with_reducible refine wa_id ?_ | exact True.intro | omega))
      refine V_ret (evs ?_)
      first | exact mi3 hc

set_option maxHeartbeats 4000000 in
set_option maxRecDepth 100000 in
theorem pixel_z (v : Vw) (wD : D) (g : Gs) (x y : Int) (hv : VIn v x y) : Eng.FnZ Tryz.prog 37 (zRk 3 64 v wD g x y (fun g' => g' = g) (pixF v x y)) := by
  have hb := hv.2.1
  have hx := hv.2.2.1
  have hy := hv.2.2.2
  have bx := cx_bd hb x
  have by_ := cy_bd hb y
  have ix := vin_ix hv
  have hz := (ichk0 hv.1).1
  unfold Z0 at hz
  unfold BdOk at hb
  have ex : cxI v x = min (max x v.bd.x) (v.bd.x + v.bd.w - 1) := rfl
  have ey : cyI v y = min (max y v.bd.y) (v.bd.y + v.bd.h - 1) := rfl
  refine Eng.FnZ.by (fn := Tryz.f37) 75 [.cell 6 49] Tryz.func37 rfl Tryz.ntmps37 rfl (by simp [zRk]) fun w0 X G0 u => ?_
  refine WA_seq (x := (fcd Tryz.f37 [0])) (y := (fcd Tryz.f37 [1])) ?_
  refine V_regionZ Γ Δ Θ [] [0, 1, 2, 6] (evs ?_)
  all_goals (try with_reducible (repeat' (first | apply And.intro | intro _)))
  all_goals (try (first | with_reducible refine wa_id ?_ | exact True.intro | omega))
  refine WA_seq (x := (fcd Tryz.f37 [1, 0])) (y := (fcd Tryz.f37 [1, 1])) ?_
  refine V_draw Γ [] [0, 1, 2, 6] mixed (by kernel_rfl) (evs ?_)
  (try simp (maxSteps := 10000000) (disch := omega) only [w64])
  simp only [← ex]
  all_goals (try with_reducible (repeat' (first | apply And.intro | intro _)))
  all_goals (try (first | with_reducible refine wa_id ?_ | exact True.intro | omega))
  refine WA_seq (x := (fcd Tryz.f37 [1, 1, 0])) (y := (fcd Tryz.f37 [1, 1, 1])) ?_
  refine V_draw Γ [] [0, 1, 2, 6] mixed (by kernel_rfl) (evs ?_)
  (try simp (maxSteps := 10000000) (disch := omega) only [w64])
  simp only [← ey]
  all_goals (try with_reducible (repeat' (first | apply And.intro | intro _)))
  all_goals (try (first | with_reducible refine wa_id ?_ | exact True.intro | omega))
  refine WA_seq (x := (fcd Tryz.f37 [1, 1, 1, 0])) (y := (fcd Tryz.f37 [1, 1, 1, 1])) ?_
  refine V_draw Γ [] [0, 1, 2, 6] mixed (by kernel_rfl) (evs ?_)
  (try simp (maxSteps := 10000000) (disch := omega) only [w64])
  all_goals (try with_reducible (repeat' (first | apply And.intro | intro _)))
  all_goals (try (first | with_reducible refine wa_id ?_ | exact True.intro | omega))
  refine WA_ret (V_retZ [(31001, some 30001), (31002, some 30002), (31003, some 30003), (31004, some 30004)] g (evs ?_) ?_)
  all_goals (first | rfl | exact ⟨rfl, rfl, rfl, rfl⟩ | (simp; done))

end Go.S16

