import Derived.Test.YtdillkdhpalgcaaGreatC1
import Derived.Test.YtdillkdhpalgcaaGreatC0
set_option linter.unusedSimpArgs false
set_option linter.unusedVariables false
set_option linter.unusedSimpArgs false
set_option linter.unusedVariables false
namespace Go.S16
open Go.RowKit Go.Proofs Go.Eng Go.Rect
set_option maxHeartbeats 16000000 in
set_option maxRecDepth 100000 in
theorem ranked_z (v : Vw) (wD : D) (g : Gs) (x y : Int) (hv : RkH v x y) : Eng.FnZ Tryz.prog 33 (zRk 3 64 v wD g x y (fun _ => True) (rankF v x y)) := by
  have hr := hv.2.1
  have hx := hv.2.2.1
  have hkd := hv.1
  refine Eng.FnZ.by (fn := Tryz.f33) 131 [.cell 6 49] Tryz.func33 rfl Tryz.ntmps33 rfl (by simp [zRk]) fun w0 X G0 u => ?_
  refine WA_seq (x := (fcd Tryz.f33 [0])) (y := (fcd Tryz.f33 [1])) ?_
  refine V_regionZ Γ Δ Θ [] [0, 1, 2, 6, 7, 8, 9, 10, 11, 12, 13, 14, 15, 16, 17, 18, 41, 48, 67, 68, 69, 90, 91, 92, 98, 103, 115] (evs ?_)
  all_goals (try with_reducible (repeat' (first | apply And.intro | intro _)))
  all_goals (try (first | with_reducible refine wa_id ?_ | exact True.intro | omega | exact pixel_z v wD (gw v x y m k) _ _ (by assumption) | exact ssort_fx _ (by assumption) | exact smax_fn _ (by assumption) | exact smin_fn _ (by assumption) | (rw [sortL_len]; omega)))
  refine WA_seq (x := (fcd Tryz.f33 [1, 0])) (y := (fcd Tryz.f33 [1, 1])) ?_
  refine WA_seq (x := (fcd Tryz.f33 [1, 0, 0])) (y := (fcd Tryz.f33 [1, 0, 1])) ?_
  refine V_regionZ Γ Δ Θ [] [0, 1, 2, 6, 7, 8, 9, 10, 11, 12, 13, 14, 15, 16, 17, 18, 41, 48, 67, 68, 69, 90, 91, 92, 98, 103, 115] (evs ?_)
  all_goals (try with_reducible (repeat' (first | apply And.intro | intro _)))
  all_goals (try (first | with_reducible refine wa_id ?_ | exact True.intro | omega | exact pixel_z v wD (gw v x y m k) _ _ (by assumption) | exact ssort_fx _ (by assumption) | exact smax_fn _ (by assumption) | exact smin_fn _ (by assumption) | (rw [sortL_len]; omega)))
  refine WA_block (c := (fcd Tryz.f33 [1, 0, 1, 0])) ?_
  refine V_loop (c := (fcd Tryz.f33 [1, 0, 1, 0, 0])) (α := Int) [7, 17, 18] [30000, 30001, 30002, 30003, 30004] (fun q => [(17, .dat (.i q))]) (fun q => rkH 3 64 30000 v wD ⟨30001, 30002, 30003, 30004⟩ (gz g q)) (fun q => 0 ≤ q ∧ q ≤ 4) (fun q => (4 - q).toNat) 0 [] ?_ (evs ?_) ?_
  · omega
  · (try with_reducible (repeat' (first | apply And.intro | intro _)))
    all_goals (first | exact True.intro | omega | (first | rfl))
  · intro q hQ
    obtain rfl | rfl | rfl | rfl | rfl : q = 0 ∨ q = 1 ∨ q = 2 ∨ q = 3 ∨ q = 4 := by omega
    · refine WA_seq (x := (fcd Tryz.f33 [1, 0, 1, 0, 0, 0])) (y := (fcd Tryz.f33 [1, 0, 1, 0, 0, 1])) ?_
      refine V_regionZ Γ Δ Θ [] [0, 1, 2, 6, 7, 8, 9, 10, 11, 12, 13, 14, 15, 16, 17, 18, 41, 48, 67, 68, 69, 90, 91, 92, 98, 103, 115] (evs ?_)
      all_goals (try with_reducible (repeat' (first | apply And.intro | intro _)))
      all_goals (try (first | with_reducible refine wa_id ?_ | exact True.intro | omega | exact pixel_z v wD (gw v x y m k) _ _ (by assumption) | exact ssort_fx _ (by assumption) | exact smax_fn _ (by assumption) | exact smin_fn _ (by assumption) | (rw [sortL_len]; omega)))
      refine WA_seq (x := (fcd Tryz.f33 [1, 0, 1, 0, 0, 1, 0])) (y := (fcd Tryz.f33 [1, 0, 1, 0, 0, 1, 1])) ?_
      refine V_cond (evs ?_)
      refine ⟨fun hc => ?_, fun hc => by exact absurd hc (by omega)⟩
      refine WA_skip ?_
      refine WA_seq (x := (fcd Tryz.f33 [1, 0, 1, 0, 0, 1, 1, 0])) (y := (fcd Tryz.f33 [1, 0, 1, 0, 0, 1, 1, 1])) ?_
      refine WA_block (c := (fcd Tryz.f33 [1, 0, 1, 0, 0, 1, 1, 0, 0])) ?_
      refine WA_seq (x := (fcd Tryz.f33 [1, 0, 1, 0, 0, 1, 1, 0, 0, 0])) (y := (fcd Tryz.f33 [1, 0, 1, 0, 0, 1, 1, 0, 0, 1])) ?_
      refine V_regionZ Γ Δ Θ [] [0, 1, 2, 6, 7, 8, 9, 10, 11, 12, 13, 14, 15, 16, 17, 18, 41, 48, 67, 68, 69, 90, 91, 92, 98, 103, 115] (evs ?_)
      all_goals (try with_reducible (repeat' (first | apply And.intro | intro _)))
      all_goals (try (first | with_reducible refine wa_id ?_ | exact True.intro | omega | exact pixel_z v wD (gw v x y m k) _ _ (by assumption) | exact ssort_fx _ (by assumption) | exact smax_fn _ (by assumption) | exact smin_fn _ (by assumption) | (rw [sortL_len]; omega)))
      refine V_draw Γ [] [0, 1, 2, 6, 7, 8, 9, 10, 11, 12, 13, 14, 15, 16, 17, 18, 41, 48, 67, 68, 69, 90, 91, 92, 98, 103, 115] mixed (by kernel_rfl) (evs ?_)
      all_goals (try with_reducible (repeat' (first | apply And.intro | intro _)))
      all_goals (try (first | with_reducible refine wa_id ?_ | exact True.intro | omega | exact pixel_z v wD (gw v x y m k) _ _ (by assumption) | exact ssort_fx _ (by assumption) | exact smax_fn _ (by assumption) | exact smin_fn _ (by assumption) | (rw [sortL_len]; omega)))
      refine V_trim [(30001, 0)] (evs ?_)
      refine V_regionZ Γ Δ Θ [] [0, 1, 2, 6, 7, 8, 9, 10, 11, 12, 13, 14, 15, 16, 17, 18, 41, 48, 67, 68, 69, 90, 91, 92, 98, 103, 115] (evs ?_)
      all_goals (try with_reducible (repeat' (first | apply And.intro | intro _)))
      all_goals (try (first | with_reducible refine wa_id ?_ | exact True.intro | omega | exact pixel_z v wD (gw v x y m k) _ _ (by assumption) | exact ssort_fx _ (by assumption) | exact smax_fn _ (by assumption) | exact smin_fn _ (by assumption) | (rw [sortL_len]; omega)))
      refine V_next [] 1 (evs ?_) ?_ ?_
      all_goals (try with_reducible (repeat' (first | apply And.intro | intro _)))
      all_goals (first | exact True.intro | omega | (first | rfl))
    · refine WA_seq (x := (fcd Tryz.f33 [1, 0, 1, 0, 0, 0])) (y := (fcd Tryz.f33 [1, 0, 1, 0, 0, 1])) ?_
      refine V_regionZ Γ Δ Θ [] [0, 1, 2, 6, 7, 8, 9, 10, 11, 12, 13, 14, 15, 16, 17, 18, 41, 48, 67, 68, 69, 90, 91, 92, 98, 103, 115] (evs ?_)
      all_goals (try with_reducible (repeat' (first | apply And.intro | intro _)))
      all_goals (try (first | with_reducible refine wa_id ?_ | exact True.intro | omega | exact pixel_z v wD (gw v x y m k) _ _ (by assumption) | exact ssort_fx _ (by assumption) | exact smax_fn _ (by assumption) | exact smin_fn _ (by assumption) | (rw [sortL_len]; omega)))
      refine WA_seq (x := (fcd Tryz.f33 [1, 0, 1, 0, 0, 1, 0])) (y := (fcd Tryz.f33 [1, 0, 1, 0, 0, 1, 1])) ?_
      refine V_cond (evs ?_)
      refine ⟨fun hc => ?_, fun hc => by exact absurd hc (by omega)⟩
      refine WA_skip ?_
      refine WA_seq (x := (fcd Tryz.f33 [1, 0, 1, 0, 0, 1, 1, 0])) (y := (fcd Tryz.f33 [1, 0, 1, 0, 0, 1, 1, 1])) ?_
      refine WA_block (c := (fcd Tryz.f33 [1, 0, 1, 0, 0, 1, 1, 0, 0])) ?_
      refine WA_seq (x := (fcd Tryz.f33 [1, 0, 1, 0, 0, 1, 1, 0, 0, 0])) (y := (fcd Tryz.f33 [1, 0, 1, 0, 0, 1, 1, 0, 0, 1])) ?_
      refine V_regionZ Γ Δ Θ [] [0, 1, 2, 6, 7, 8, 9, 10, 11, 12, 13, 14, 15, 16, 17, 18, 41, 48, 67, 68, 69, 90, 91, 92, 98, 103, 115] (evs ?_)
      all_goals (try with_reducible (repeat' (first | apply And.intro | intro _)))
      all_goals (try (first | with_reducible refine wa_id ?_ | exact True.intro | omega | exact pixel_z v wD (gw v x y m k) _ _ (by assumption) | exact ssort_fx _ (by assumption) | exact smax_fn _ (by assumption) | exact smin_fn _ (by assumption) | (rw [sortL_len]; omega)))
      refine V_draw Γ [] [0, 1, 2, 6, 7, 8, 9, 10, 11, 12, 13, 14, 15, 16, 17, 18, 41, 48, 67, 68, 69, 90, 91, 92, 98, 103, 115] mixed (by kernel_rfl) (evs ?_)
      all_goals (try with_reducible (repeat' (first | apply And.intro | intro _)))
      all_goals (try (first | with_reducible refine wa_id ?_ | exact True.intro | omega | exact pixel_z v wD (gw v x y m k) _ _ (by assumption) | exact ssort_fx _ (by assumption) | exact smax_fn _ (by assumption) | exact smin_fn _ (by assumption) | (rw [sortL_len]; omega)))
      refine V_trim [(30002, 0)] (evs ?_)
      refine V_regionZ Γ Δ Θ [] [0, 1, 2, 6, 7, 8, 9, 10, 11, 12, 13, 14, 15, 16, 17, 18, 41, 48, 67, 68, 69, 90, 91, 92, 98, 103, 115] (evs ?_)
      all_goals (try with_reducible (repeat' (first | apply And.intro | intro _)))
      all_goals (try (first | with_reducible refine wa_id ?_ | exact True.intro | omega | exact pixel_z v wD (gw v x y m k) _ _ (by assumption) | exact ssort_fx _ (by assumption) | exact smax_fn _ (by assumption) | exact smin_fn _ (by assumption) | (rw [sortL_len]; omega)))
      refine V_next [] 2 (evs ?_) ?_ ?_
      all_goals (try with_reducible (repeat' (first | apply And.intro | intro _)))
      all_goals (first | exact True.intro | omega | (first | rfl))
    · refine WA_seq (x := (fcd Tryz.f33 [1, 0, 1, 0, 0, 0])) (y := (fcd Tryz.f33 [1, 0, 1, 0, 0, 1])) ?_
      refine V_regionZ Γ Δ Θ [] [0, 1, 2, 6, 7, 8, 9, 10, 11, 12, 13, 14, 15, 16, 17, 18, 41, 48, 67, 68, 69, 90, 91, 92, 98, 103, 115] (evs ?_)
      all_goals (try with_reducible (repeat' (first | apply And.intro | intro _)))
      all_goals (try (first | with_reducible refine wa_id ?_ | exact True.intro | omega | exact pixel_z v wD (gw v x y m k) _ _ (by assumption) | exact ssort_fx _ (by assumption) | exact smax_fn _ (by assumption) | exact smin_fn _ (by assumption) | (rw [sortL_len]; omega)))
      refine WA_seq (x := (fcd Tryz.f33 [1, 0, 1, 0, 0, 1, 0])) (y := (fcd Tryz.f33 [1, 0, 1, 0, 0, 1, 1])) ?_
      refine V_cond (evs ?_)
      refine ⟨fun hc => ?_, fun hc => by exact absurd hc (by omega)⟩
      refine WA_skip ?_
      refine WA_seq (x := (fcd Tryz.f33 [1, 0, 1, 0, 0, 1, 1, 0])) (y := (fcd Tryz.f33 [1, 0, 1, 0, 0, 1, 1, 1])) ?_
      refine WA_block (c := (fcd Tryz.f33 [1, 0, 1, 0, 0, 1, 1, 0, 0])) ?_
      refine WA_seq (x := (fcd Tryz.f33 [1, 0, 1, 0, 0, 1, 1, 0, 0, 0])) (y := (fcd Tryz.f33 [1, 0, 1, 0, 0, 1, 1, 0, 0, 1])) ?_
      refine V_regionZ Γ Δ Θ [] [0, 1, 2, 6, 7, 8, 9, 10, 11, 12, 13, 14, 15, 16, 17, 18, 41, 48, 67, 68, 69, 90, 91, 92, 98, 103, 115] (evs ?_)
      all_goals (try with_reducible (repeat' (first | apply And.intro | intro _)))
      all_goals (try (first | with_reducible refine wa_id ?_ | exact True.intro | omega | exact pixel_z v wD (gw v x y m k) _ _ (by assumption) | exact ssort_fx _ (by assumption) | exact smax_fn _ (by assumption) | exact smin_fn _ (by assumption) | (rw [sortL_len]; omega)))
      refine V_draw Γ [] [0, 1, 2, 6, 7, 8, 9, 10, 11, 12, 13, 14, 15, 16, 17, 18, 41, 48, 67, 68, 69, 90, 91, 92, 98, 103, 115] mixed (by kernel_rfl) (evs ?_)
      all_goals (try with_reducible (repeat' (first | apply And.intro | intro _)))
      all_goals (try (first | with_reducible refine wa_id ?_ | exact True.intro | omega | exact pixel_z v wD (gw v x y m k) _ _ (by assumption) | exact ssort_fx _ (by assumption) | exact smax_fn _ (by assumption) | exact smin_fn _ (by assumption) | (rw [sortL_len]; omega)))
      refine V_trim [(30003, 0)] (evs ?_)
      refine V_regionZ Γ Δ Θ [] [0, 1, 2, 6, 7, 8, 9, 10, 11, 12, 13, 14, 15, 16, 17, 18, 41, 48, 67, 68, 69, 90, 91, 92, 98, 103, 115] (evs ?_)
      all_goals (try with_reducible (repeat' (first | apply And.intro | intro _)))
      all_goals (try (first | with_reducible refine wa_id ?_ | exact True.intro | omega | exact pixel_z v wD (gw v x y m k) _ _ (by assumption) | exact ssort_fx _ (by assumption) | exact smax_fn _ (by assumption) | exact smin_fn _ (by assumption) | (rw [sortL_len]; omega)))
      refine V_next [] 3 (evs ?_) ?_ ?_
      all_goals (try with_reducible (repeat' (first | apply And.intro | intro _)))
      all_goals (first | exact True.intro | omega | (first | rfl))
    · refine WA_seq (x := (fcd Tryz.f33 [1, 0, 1, 0, 0, 0])) (y := (fcd Tryz.f33 [1, 0, 1, 0, 0, 1])) ?_
      refine V_regionZ Γ Δ Θ [] [0, 1, 2, 6, 7, 8, 9, 10, 11, 12, 13, 14, 15, 16, 17, 18, 41, 48, 67, 68, 69, 90, 91, 92, 98, 103, 115] (evs ?_)
      all_goals (try with_reducible (repeat' (first | apply And.intro | intro _)))
      all_goals (try (first | with_reducible refine wa_id ?_ | exact True.intro | omega | exact pixel_z v wD (gw v x y m k) _ _ (by assumption) | exact ssort_fx _ (by assumption) | exact smax_fn _ (by assumption) | exact smin_fn _ (by assumption) | (rw [sortL_len]; omega)))
      refine WA_seq (x := (fcd Tryz.f33 [1, 0, 1, 0, 0, 1, 0])) (y := (fcd Tryz.f33 [1, 0, 1, 0, 0, 1, 1])) ?_
      refine V_cond (evs ?_)
      refine ⟨fun hc => ?_, fun hc => by exact absurd hc (by omega)⟩
      refine WA_skip ?_
      refine WA_seq (x := (fcd Tryz.f33 [1, 0, 1, 0, 0, 1, 1, 0])) (y := (fcd Tryz.f33 [1, 0, 1, 0, 0, 1, 1, 1])) ?_
      refine WA_block (c := (fcd Tryz.f33 [1, 0, 1, 0, 0, 1, 1, 0, 0])) ?_
      refine WA_seq (x := (fcd Tryz.f33 [1, 0, 1, 0, 0, 1, 1, 0, 0, 0])) (y := (fcd Tryz.f33 [1, 0, 1, 0, 0, 1, 1, 0, 0, 1])) ?_
      refine V_regionZ Γ Δ Θ [] [0, 1, 2, 6, 7, 8, 9, 10, 11, 12, 13, 14, 15, 16, 17, 18, 41, 48, 67, 68, 69, 90, 91, 92, 98, 103, 115] (evs ?_)
      all_goals (try with_reducible (repeat' (first | apply And.intro | intro _)))
      all_goals (try (first | with_reducible refine wa_id ?_ | exact True.intro | omega | exact pixel_z v wD (gw v x y m k) _ _ (by assumption) | exact ssort_fx _ (by assumption) | exact smax_fn _ (by assumption) | exact smin_fn _ (by assumption) | (rw [sortL_len]; omega)))
      refine V_draw Γ [] [0, 1, 2, 6, 7, 8, 9, 10, 11, 12, 13, 14, 15, 16, 17, 18, 41, 48, 67, 68, 69, 90, 91, 92, 98, 103, 115] mixed (by kernel_rfl) (evs ?_)
      all_goals (try with_reducible (repeat' (first | apply And.intro | intro _)))
      all_goals (try (first | with_reducible refine wa_id ?_ | exact True.intro | omega | exact pixel_z v wD (gw v x y m k) _ _ (by assumption) | exact ssort_fx _ (by assumption) | exact smax_fn _ (by assumption) | exact smin_fn _ (by assumption) | (rw [sortL_len]; omega)))
      refine V_trim [(30004, 0)] (evs ?_)
      refine V_regionZ Γ Δ Θ [] [0, 1, 2, 6, 7, 8, 9, 10, 11, 12, 13, 14, 15, 16, 17, 18, 41, 48, 67, 68, 69, 90, 91, 92, 98, 103, 115] (evs ?_)
      all_goals (try with_reducible (repeat' (first | apply And.intro | intro _)))
      all_goals (try (first | with_reducible refine wa_id ?_ | exact True.intro | omega | exact pixel_z v wD (gw v x y m k) _ _ (by assumption) | exact ssort_fx _ (by assumption) | exact smax_fn _ (by assumption) | exact smin_fn _ (by assumption) | (rw [sortL_len]; omega)))
      refine V_next [] 4 (evs ?_) ?_ ?_
      all_goals (try with_reducible (repeat' (first | apply And.intro | intro _)))
      all_goals (first | exact True.intro | omega | (first | rfl))
    · refine WA_seq (x := (fcd Tryz.f33 [1, 0, 1, 0, 0, 0])) (y := (fcd Tryz.f33 [1, 0, 1, 0, 0, 1])) ?_
      refine V_regionZ Γ Δ Θ [] [0, 1, 2, 6, 7, 8, 9, 10, 11, 12, 13, 14, 15, 16, 17, 18, 41, 48, 67, 68, 69, 90, 91, 92, 98, 103, 115] (evs ?_)
      all_goals (try with_reducible (repeat' (first | apply And.intro | intro _)))
      all_goals (try (first | with_reducible refine wa_id ?_ | exact True.intro | omega | exact pixel_z v wD (gw v x y m k) _ _ (by assumption) | exact ssort_fx _ (by assumption) | exact smax_fn _ (by assumption) | exact smin_fn _ (by assumption) | (rw [sortL_len]; omega)))
      refine WA_seq (x := (fcd Tryz.f33 [1, 0, 1, 0, 0, 1, 0])) (y := (fcd Tryz.f33 [1, 0, 1, 0, 0, 1, 1])) ?_
      refine V_cond (evs ?_)
      refine ⟨fun hc => by exact absurd hc (by omega), fun hc => ?_⟩
      refine V_exit (evs ?_)
      refine WA_seq (x := (fcd Tryz.f33 [1, 1, 0])) (y := (fcd Tryz.f33 [1, 1, 1])) ?_
      refine V_regionZ Γ Δ Θ [] [0, 1, 2, 6, 7, 8, 9, 10, 11, 12, 13, 14, 15, 16, 17, 18, 41, 48, 67, 68, 69, 90, 91, 92, 98, 103, 115] (evs ?_)
      all_goals (try with_reducible (repeat' (first | apply And.intro | intro _)))
      all_goals (try (first | with_reducible refine wa_id ?_ | exact True.intro | omega | exact pixel_z v wD (gw v x y m k) _ _ (by assumption) | exact ssort_fx _ (by assumption) | exact smax_fn _ (by assumption) | exact smin_fn _ (by assumption) | (rw [sortL_len]; omega)))
      refine WA_seq (x := (fcd Tryz.f33 [1, 1, 1, 0])) (y := (fcd Tryz.f33 [1, 1, 1, 1])) ?_
      refine WA_seq (x := (fcd Tryz.f33 [1, 1, 1, 0, 0])) (y := (fcd Tryz.f33 [1, 1, 1, 0, 1])) ?_
      refine V_regionZ Γ Δ Θ [] [0, 1, 2, 6, 7, 8, 9, 10, 11, 12, 13, 14, 15, 16, 17, 18, 41, 48, 67, 68, 69, 90, 91, 92, 98, 103, 115] (evs ?_)
      (try simp (maxSteps := 10000000) (disch := omega) only [w64])
      all_goals (try with_reducible (repeat' (first | apply And.intro | intro _)))
      all_goals (try (first | with_reducible refine wa_id ?_ | exact True.intro | omega | exact pixel_z v wD (gw v x y m k) _ _ (by assumption) | exact ssort_fx _ (by assumption) | exact smax_fn _ (by assumption) | exact smin_fn _ (by assumption) | (rw [sortL_len]; omega)))
      refine WA_block (c := (fcd Tryz.f33 [1, 1, 1, 0, 1, 0])) ?_
      refine V_loop (c := (fcd Tryz.f33 [1, 1, 1, 0, 1, 0, 0])) (α := Nat) [9, 10, 11, 12, 13, 41, 48, 67, 68, 69] [11, 81, 82, 15800, 15801, 15802, 15803, 30000, 30001, 30002, 30003, 30004] (fun m => [(9, .dat (.i ((m : Int) - v.rad)))]) (fun m => rkH 3 64 30000 v wD ⟨20000, 20001, 20002, 20003⟩ (gw v x y m 0)) (fun m => m ≤ (2 * v.rad + 1).toNat) (fun m => (2 * v.rad + 1).toNat - m) 0 [(20000, some 30001), (20001, some 30002), (20002, some 30003), (20003, some 30004)] ?_ (evs ?_) ?_
      · exact Nat.zero_le _
      · (try with_reducible (repeat' (first | apply And.intro | intro _)))
        all_goals (first | exact True.intro | omega | (first | rfl | (simp; done)))
      · intro m hM
        refine WA_seq (x := (fcd Tryz.f33 [1, 1, 1, 0, 1, 0, 0, 0])) (y := (fcd Tryz.f33 [1, 1, 1, 0, 1, 0, 0, 1])) ?_
        refine WA_seq (x := (fcd Tryz.f33 [1, 1, 1, 0, 1, 0, 0, 0, 0])) (y := (fcd Tryz.f33 [1, 1, 1, 0, 1, 0, 0, 0, 1])) ?_
        refine V_regionZ Γ Δ Θ [] [0, 1, 2, 6, 7, 8, 9, 10, 11, 12, 13, 14, 15, 16, 17, 18, 41, 48, 67, 68, 69, 90, 91, 92, 98, 103, 115] (evs ?_)
        all_goals (try with_reducible (repeat' (first | apply And.intro | intro _)))
        all_goals (try (first | with_reducible refine wa_id ?_ | exact True.intro | omega | exact pixel_z v wD (gw v x y m k) _ _ (by assumption) | exact ssort_fx _ (by assumption) | exact smax_fn _ (by assumption) | exact smin_fn _ (by assumption) | (rw [sortL_len]; omega)))
        refine V_cond (evs ?_)
        refine ⟨fun hc => ?_, fun hc => ?_⟩
        · refine WA_skip ?_
          refine WA_seq (x := (fcd Tryz.f33 [1, 1, 1, 0, 1, 0, 0, 1, 0])) (y := (fcd Tryz.f33 [1, 1, 1, 0, 1, 0, 0, 1, 1])) ?_
          refine WA_block (c := (fcd Tryz.f33 [1, 1, 1, 0, 1, 0, 0, 1, 0, 0])) ?_
          refine WA_seq (x := (fcd Tryz.f33 [1, 1, 1, 0, 1, 0, 0, 1, 0, 0, 0])) (y := (fcd Tryz.f33 [1, 1, 1, 0, 1, 0, 0, 1, 0, 0, 1])) ?_
          refine V_regionZ Γ Δ Θ [] [0, 1, 2, 6, 7, 8, 9, 10, 11, 12, 13, 14, 15, 16, 17, 18, 41, 48, 67, 68, 69, 90, 91, 92, 98, 103, 115] (evs ?_)
          (try simp (maxSteps := 10000000) (disch := omega) only [w64])
          all_goals (try with_reducible (repeat' (first | apply And.intro | intro _)))
          all_goals (try (first | with_reducible refine wa_id ?_ | exact True.intro | omega | exact pixel_z v wD (gw v x y m k) _ _ (by assumption) | exact ssort_fx _ (by assumption) | exact smax_fn _ (by assumption) | exact smin_fn _ (by assumption) | (rw [sortL_len]; omega)))
          refine WA_block (c := (fcd Tryz.f33 [1, 1, 1, 0, 1, 0, 0, 1, 0, 0, 1, 0])) ?_
          refine V_loop (c := (fcd Tryz.f33 [1, 1, 1, 0, 1, 0, 0, 1, 0, 0, 1, 0, 0])) (α := Nat) [10, 11, 12, 13, 48, 67, 68, 69] [11, 81, 82, 15800, 15801, 15802, 15803, 20000, 20001, 20002, 20003, 30000] (fun k => [(10, .dat (.i ((k : Int) - v.rad)))]) (fun k => rkH 3 64 30000 v wD ⟨20010, 20011, 20012, 20013⟩ (gw v x y m k)) (fun k => k ≤ (2 * v.rad + 1).toNat) (fun k => (2 * v.rad + 1).toNat - k) 0 [(20010, some 20000), (20011, some 20001), (20012, some 20002), (20013, some 20003)] ?_ (evs ?_) ?_
          · exact Nat.zero_le _
          · (try with_reducible (repeat' (first | apply And.intro | intro _)))
            all_goals (first | exact True.intro | omega | (first | rfl | (simp; done)))
          · intro k hK
            refine WA_seq (x := (fcd Tryz.f33 [1, 1, 1, 0, 1, 0, 0, 1, 0, 0, 1, 0, 0, 0])) (y := (fcd Tryz.f33 [1, 1, 1, 0, 1, 0, 0, 1, 0, 0, 1, 0, 0, 1])) ?_
            refine WA_seq (x := (fcd Tryz.f33 [1, 1, 1, 0, 1, 0, 0, 1, 0, 0, 1, 0, 0, 0, 0])) (y := (fcd Tryz.f33 [1, 1, 1, 0, 1, 0, 0, 1, 0, 0, 1, 0, 0, 0, 1])) ?_
            refine V_regionZ Γ Δ Θ [] [0, 1, 2, 6, 7, 8, 9, 10, 11, 12, 13, 14, 15, 16, 17, 18, 41, 48, 67, 68, 69, 90, 91, 92, 98, 103, 115] (evs ?_)
            all_goals (try with_reducible (repeat' (first | apply And.intro | intro _)))
            all_goals (try (first | with_reducible refine wa_id ?_ | exact True.intro | omega | exact pixel_z v wD (gw v x y m k) _ _ (by assumption) | exact ssort_fx _ (by assumption) | exact smax_fn _ (by assumption) | exact smin_fn _ (by assumption) | (rw [sortL_len]; omega)))
            refine V_cond (evs ?_)
            refine ⟨fun hc => ?_, fun hc => ?_⟩
            · refine WA_skip ?_
              refine WA_seq (x := (fcd Tryz.f33 [1, 1, 1, 0, 1, 0, 0, 1, 0, 0, 1, 0, 0, 1, 0])) (y := (fcd Tryz.f33 [1, 1, 1, 0, 1, 0, 0, 1, 0, 0, 1, 0, 0, 1, 1])) ?_
              refine WA_block (c := (fcd Tryz.f33 [1, 1, 1, 0, 1, 0, 0, 1, 0, 0, 1, 0, 0, 1, 0, 0])) ?_
              refine WA_seq (x := (fcd Tryz.f33 [1, 1, 1, 0, 1, 0, 0, 1, 0, 0, 1, 0, 0, 1, 0, 0, 0])) (y := (fcd Tryz.f33 [1, 1, 1, 0, 1, 0, 0, 1, 0, 0, 1, 0, 0, 1, 0, 0, 1])) ?_
              refine V_regionZ Γ Δ Θ [] [0, 1, 2, 6, 7, 8, 9, 10, 11, 12, 13, 14, 15, 16, 17, 18, 41, 48, 67, 68, 69, 90, 91, 92, 98, 103, 115] (evs ?_)
              (try simp (maxSteps := 10000000) (disch := omega) only [w64])
              have hm : m < (2 * v.rad + 1).toNat := by omega
              have hk : k < (2 * v.rad + 1).toNat := by omega
              have vi := rk_vin hv hm hk
              all_goals (try with_reducible (repeat' (first | apply And.intro | intro _)))
              all_goals (try (first | with_reducible refine wa_id ?_ | exact True.intro | exact pixel_fn ⟨⟨_, _, _⟩, ⟨_, _⟩, ⟨_, _, _, _⟩, _, _, _⟩ _ _ _ _ _ _ _ (by assumption) | omega | exact pixel_z v wD (gw v x y m k) _ _ (by assumption) | exact ssort_fx _ (by assumption) | exact smax_fn _ (by assumption) | exact smin_fn _ (by assumption) | (rw [sortL_len]; omega)))
              rename_i g2 hg2
              subst hg2
              refine WA_seq (x := (fcd Tryz.f33 [1, 1, 1, 0, 1, 0, 0, 1, 0, 0, 1, 0, 0, 1, 0, 0, 1, 0])) (y := (fcd Tryz.f33 [1, 1, 1, 0, 1, 0, 0, 1, 0, 0, 1, 0, 0, 1, 0, 0, 1, 1])) ?_
              refine V_regionZ Γ Δ Θ [] [0, 1, 2, 6, 7, 8, 9, 10, 11, 12, 13, 14, 15, 16, 17, 18, 41, 48, 67, 68, 69, 90, 91, 92, 98, 103, 115] (evs ?_)
              all_goals (try with_reducible (repeat' (first | apply And.intro | intro _)))
              all_goals (try (first | with_reducible refine wa_id ?_ | exact True.intro | omega | exact pixel_z v wD (gw v x y m k) _ _ (by assumption) | exact ssort_fx _ (by assumption) | exact smax_fn _ (by assumption) | exact smin_fn _ (by assumption) | (rw [sortL_len]; omega)))
              refine WA_block (c := (fcd Tryz.f33 [1, 1, 1, 0, 1, 0, 0, 1, 0, 0, 1, 0, 0, 1, 0, 0, 1, 1, 0])) ?_
              refine V_loop (c := (fcd Tryz.f33 [1, 1, 1, 0, 1, 0, 0, 1, 0, 0, 1, 0, 0, 1, 0, 0, 1, 1, 0, 0])) (α := Int) [12, 13, 68, 69] [81, 82, 15800, 15801, 15802, 15803, 30000] (fun q => [(68, .dat (.i q))]) (fun q => rkH 3 64 30000 v wD ⟨20020, 20021, 20022, 20023⟩ (gp v x y m k q)) (fun q => 0 ≤ q ∧ q ≤ 4) (fun q => (4 - q).toNat) 0 [(20020, some 15800), (20021, some 15801), (20022, some 15802), (20023, some 15803)] ?_ (evs ?_) ?_
              · omega
              · (try with_reducible (repeat' (first | apply And.intro | intro _)))
                all_goals (first | exact True.intro | omega | (first | rfl))
              · intro q hQ
                obtain rfl | rfl | rfl | rfl | rfl : q = 0 ∨ q = 1 ∨ q = 2 ∨ q = 3 ∨ q = 4 := by omega
                · refine WA_seq (x := (fcd Tryz.f33 [1, 1, 1, 0, 1, 0, 0, 1, 0, 0, 1, 0, 0, 1, 0, 0, 1, 1, 0, 0, 0])) (y := (fcd Tryz.f33 [1, 1, 1, 0, 1, 0, 0, 1, 0, 0, 1, 0, 0, 1, 0, 0, 1, 1, 0, 0, 1])) ?_
                  refine V_regionZ Γ Δ Θ [] [0, 1, 2, 6, 7, 8, 9, 10, 11, 12, 13, 14, 15, 16, 17, 18, 41, 48, 67, 68, 69, 90, 91, 92, 98, 103, 115] (evs ?_)
                  all_goals (try with_reducible (repeat' (first | apply And.intro | intro _)))
                  all_goals (try (first | with_reducible refine wa_id ?_ | exact True.intro | omega | exact pixel_z v wD (gw v x y m k) _ _ (by assumption) | exact ssort_fx _ (by assumption) | exact smax_fn _ (by assumption) | exact smin_fn _ (by assumption) | (rw [sortL_len]; omega)))
                  refine WA_seq (x := (fcd Tryz.f33 [1, 1, 1, 0, 1, 0, 0, 1, 0, 0, 1, 0, 0, 1, 0, 0, 1, 1, 0, 0, 1, 0])) (y := (fcd Tryz.f33 [1, 1, 1, 0, 1, 0, 0, 1, 0, 0, 1, 0, 0, 1, 0, 0, 1, 1, 0, 0, 1, 1])) ?_
                  refine V_cond (evs ?_)
                  refine ⟨fun hc => ?_, fun hc => by exact absurd hc (by omega)⟩
                  refine WA_skip ?_
                  refine WA_seq (x := (fcd Tryz.f33 [1, 1, 1, 0, 1, 0, 0, 1, 0, 0, 1, 0, 0, 1, 0, 0, 1, 1, 0, 0, 1, 1, 0])) (y := (fcd Tryz.f33 [1, 1, 1, 0, 1, 0, 0, 1, 0, 0, 1, 0, 0, 1, 0, 0, 1, 1, 0, 0, 1, 1, 1])) ?_
                  refine WA_block (c := (fcd Tryz.f33 [1, 1, 1, 0, 1, 0, 0, 1, 0, 0, 1, 0, 0, 1, 0, 0, 1, 1, 0, 0, 1, 1, 0, 0])) ?_
                  refine WA_seq (x := (fcd Tryz.f33 [1, 1, 1, 0, 1, 0, 0, 1, 0, 0, 1, 0, 0, 1, 0, 0, 1, 1, 0, 0, 1, 1, 0, 0, 0])) (y := (fcd Tryz.f33 [1, 1, 1, 0, 1, 0, 0, 1, 0, 0, 1, 0, 0, 1, 0, 0, 1, 1, 0, 0, 1, 1, 0, 0, 1])) ?_
                  refine V_regionZ Γ Δ Θ [] [0, 1, 2, 6, 7, 8, 9, 10, 11, 12, 13, 14, 15, 16, 17, 18, 41, 48, 67, 68, 69, 90, 91, 92, 98, 103, 115] (evs ?_)
                  all_goals (try with_reducible (repeat' (first | apply And.intro | intro _)))
                  all_goals (try (first | with_reducible refine wa_id ?_ | exact True.intro | omega | exact pixel_z v wD (gw v x y m k) _ _ (by assumption) | exact ssort_fx _ (by assumption) | exact smax_fn _ (by assumption) | exact smin_fn _ (by assumption) | (rw [sortL_len]; omega)))
                  refine V_draw Γ [] [0, 1, 2, 6, 7, 8, 9, 10, 11, 12, 13, 14, 15, 16, 17, 18, 41, 48, 67, 68, 69, 90, 91, 92, 98, 103, 115] mixed (by kernel_rfl) (evs ?_)
                  have hb0 := wk_bd hv (c := 0) (m := m) (k := k) (by omega) (by omega)
                  have hb1 := wk_bd hv (c := 1) (m := m) (k := k) (by omega) (by omega)
                  have hb2 := wk_bd hv (c := 2) (m := m) (k := k) (by omega) (by omega)
                  have hb3 := wk_bd hv (c := 3) (m := m) (k := k) (by omega) (by omega)
                  all_goals (try with_reducible (repeat' (first | apply And.intro | intro _)))
                  all_goals (try (first | with_reducible refine wa_id ?_ | exact True.intro | omega | exact pixel_z v wD (gw v x y m k) _ _ (by assumption) | exact ssort_fx _ (by assumption) | exact smax_fn _ (by assumption) | exact smin_fn _ (by assumption) | (rw [sortL_len]; omega)))
                  refine V_regionZ Γ Δ Θ [] [0, 1, 2, 6, 7, 8, 9, 10, 11, 12, 13, 14, 15, 16, 17, 18, 41, 48, 67, 68, 69, 90, 91, 92, 98, 103, 115] (evs ?_)
                  all_goals (try with_reducible (repeat' (first | apply And.intro | intro _)))
                  all_goals (try (first | with_reducible refine wa_id ?_ | exact True.intro | omega | exact pixel_z v wD (gw v x y m k) _ _ (by assumption) | exact ssort_fx _ (by assumption) | exact smax_fn _ (by assumption) | exact smin_fn _ (by assumption) | (rw [sortL_len]; omega)))
                  refine V_next [(20020, some 82)] 1 (evs ?_) ?_ ?_
                  all_goals (try with_reducible (repeat' (first | apply And.intro | intro _)))
                  all_goals (first | exact True.intro | omega | (first | rfl | (rw [winK_succ]; simp; done) | (rw [winK_succ, List.map_append]; rfl)))
                · refine WA_seq (x := (fcd Tryz.f33 [1, 1, 1, 0, 1, 0, 0, 1, 0, 0, 1, 0, 0, 1, 0, 0, 1, 1, 0, 0, 0])) (y := (fcd Tryz.f33 [1, 1, 1, 0, 1, 0, 0, 1, 0, 0, 1, 0, 0, 1, 0, 0, 1, 1, 0, 0, 1])) ?_
                  refine V_regionZ Γ Δ Θ [] [0, 1, 2, 6, 7, 8, 9, 10, 11, 12, 13, 14, 15, 16, 17, 18, 41, 48, 67, 68, 69, 90, 91, 92, 98, 103, 115] (evs ?_)
                  all_goals (try with_reducible (repeat' (first | apply And.intro | intro _)))
                  all_goals (try (first | with_reducible refine wa_id ?_ | exact True.intro | omega | exact pixel_z v wD (gw v x y m k) _ _ (by assumption) | exact ssort_fx _ (by assumption) | exact smax_fn _ (by assumption) | exact smin_fn _ (by assumption) | (rw [sortL_len]; omega)))
                  refine WA_seq (x := (fcd Tryz.f33 [1, 1, 1, 0, 1, 0, 0, 1, 0, 0, 1, 0, 0, 1, 0, 0, 1, 1, 0, 0, 1, 0])) (y := (fcd Tryz.f33 [1, 1, 1, 0, 1, 0, 0, 1, 0, 0, 1, 0, 0, 1, 0, 0, 1, 1, 0, 0, 1, 1])) ?_
                  refine V_cond (evs ?_)
                  refine ⟨fun hc => ?_, fun hc => by exact absurd hc (by omega)⟩
                  refine WA_skip ?_
                  refine WA_seq (x := (fcd Tryz.f33 [1, 1, 1, 0, 1, 0, 0, 1, 0, 0, 1, 0, 0, 1, 0, 0, 1, 1, 0, 0, 1, 1, 0])) (y := (fcd Tryz.f33 [1, 1, 1, 0, 1, 0, 0, 1, 0, 0, 1, 0, 0, 1, 0, 0, 1, 1, 0, 0, 1, 1, 1])) ?_
                  refine WA_block (c := (fcd Tryz.f33 [1, 1, 1, 0, 1, 0, 0, 1, 0, 0, 1, 0, 0, 1, 0, 0, 1, 1, 0, 0, 1, 1, 0, 0])) ?_
                  refine WA_seq (x := (fcd Tryz.f33 [1, 1, 1, 0, 1, 0, 0, 1, 0, 0, 1, 0, 0, 1, 0, 0, 1, 1, 0, 0, 1, 1, 0, 0, 0])) (y := (fcd Tryz.f33 [1, 1, 1, 0, 1, 0, 0, 1, 0, 0, 1, 0, 0, 1, 0, 0, 1, 1, 0, 0, 1, 1, 0, 0, 1])) ?_
                  refine V_regionZ Γ Δ Θ [] [0, 1, 2, 6, 7, 8, 9, 10, 11, 12, 13, 14, 15, 16, 17, 18, 41, 48, 67, 68, 69, 90, 91, 92, 98, 103, 115] (evs ?_)
                  all_goals (try with_reducible (repeat' (first | apply And.intro | intro _)))
                  all_goals (try (first | with_reducible refine wa_id ?_ | exact True.intro | omega | exact pixel_z v wD (gw v x y m k) _ _ (by assumption) | exact ssort_fx _ (by assumption) | exact smax_fn _ (by assumption) | exact smin_fn _ (by assumption) | (rw [sortL_len]; omega)))
                  refine V_draw Γ [] [0, 1, 2, 6, 7, 8, 9, 10, 11, 12, 13, 14, 15, 16, 17, 18, 41, 48, 67, 68, 69, 90, 91, 92, 98, 103, 115] mixed (by kernel_rfl) (evs ?_)
                  have hb0 := wk_bd hv (c := 0) (m := m) (k := k) (by omega) (by omega)
                  have hb1 := wk_bd hv (c := 1) (m := m) (k := k) (by omega) (by omega)
                  have hb2 := wk_bd hv (c := 2) (m := m) (k := k) (by omega) (by omega)
                  have hb3 := wk_bd hv (c := 3) (m := m) (k := k) (by omega) (by omega)
                  all_goals (try with_reducible (repeat' (first | apply And.intro | intro _)))
                  all_goals (try (first | with_reducible refine wa_id ?_ | exact True.intro | omega | exact pixel_z v wD (gw v x y m k) _ _ (by assumption) | exact ssort_fx _ (by assumption) | exact smax_fn _ (by assumption) | exact smin_fn _ (by assumption) | (rw [sortL_len]; omega)))
                  refine V_regionZ Γ Δ Θ [] [0, 1, 2, 6, 7, 8, 9, 10, 11, 12, 13, 14, 15, 16, 17, 18, 41, 48, 67, 68, 69, 90, 91, 92, 98, 103, 115] (evs ?_)
                  all_goals (try with_reducible (repeat' (first | apply And.intro | intro _)))
                  all_goals (try (first | with_reducible refine wa_id ?_ | exact True.intro | omega | exact pixel_z v wD (gw v x y m k) _ _ (by assumption) | exact ssort_fx _ (by assumption) | exact smax_fn _ (by assumption) | exact smin_fn _ (by assumption) | (rw [sortL_len]; omega)))
                  refine V_next [(20021, some 82)] 2 (evs ?_) ?_ ?_
                  all_goals (try with_reducible (repeat' (first | apply And.intro | intro _)))
                  all_goals (first | exact True.intro | omega | (first | rfl | (rw [winK_succ]; simp; done) | (rw [winK_succ, List.map_append]; rfl)))
                · refine WA_seq (x := (fcd Tryz.f33 [1, 1, 1, 0, 1, 0, 0, 1, 0, 0, 1, 0, 0, 1, 0, 0, 1, 1, 0, 0, 0])) (y := (fcd Tryz.f33 [1, 1, 1, 0, 1, 0, 0, 1, 0, 0, 1, 0, 0, 1, 0, 0, 1, 1, 0, 0, 1])) ?_
                  refine V_regionZ Γ Δ Θ [] [0, 1, 2, 6, 7, 8, 9, 10, 11, 12, 13, 14, 15, 16, 17, 18, 41, 48, 67, 68, 69, 90, 91, 92, 98, 103, 115] (evs ?_)
                  all_goals (try with_reducible (repeat' (first | apply And.intro | intro _)))
                  all_goals (try (first | with_reducible refine wa_id ?_ | exact True.intro | omega | exact pixel_z v wD (gw v x y m k) _ _ (by assumption) | exact ssort_fx _ (by assumption) | exact smax_fn _ (by assumption) | exact smin_fn _ (by assumption) | (rw [sortL_len]; omega)))
                  refine WA_seq (x := (fcd Tryz.f33 [1, 1, 1, 0, 1, 0, 0, 1, 0, 0, 1, 0, 0, 1, 0, 0, 1, 1, 0, 0, 1, 0])) (y := (fcd Tryz.f33 [1, 1, 1, 0, 1, 0, 0, 1, 0, 0, 1, 0, 0, 1, 0, 0, 1, 1, 0, 0, 1, 1])) ?_
                  refine V_cond (evs ?_)
                  refine ⟨fun hc => ?_, fun hc => by exact absurd hc (by omega)⟩
                  refine WA_skip ?_
                  refine WA_seq (x := (fcd Tryz.f33 [1, 1, 1, 0, 1, 0, 0, 1, 0, 0, 1, 0, 0, 1, 0, 0, 1, 1, 0, 0, 1, 1, 0])) (y := (fcd Tryz.f33 [1, 1, 1, 0, 1, 0, 0, 1, 0, 0, 1, 0, 0, 1, 0, 0, 1, 1, 0, 0, 1, 1, 1])) ?_
                  refine WA_block (c := (fcd Tryz.f33 [1, 1, 1, 0, 1, 0, 0, 1, 0, 0, 1, 0, 0, 1, 0, 0, 1, 1, 0, 0, 1, 1, 0, 0])) ?_
                  refine WA_seq (x := (fcd Tryz.f33 [1, 1, 1, 0, 1, 0, 0, 1, 0, 0, 1, 0, 0, 1, 0, 0, 1, 1, 0, 0, 1, 1, 0, 0, 0])) (y := (fcd Tryz.f33 [1, 1, 1, 0, 1, 0, 0, 1, 0, 0, 1, 0, 0, 1, 0, 0, 1, 1, 0, 0, 1, 1, 0, 0, 1])) ?_
                  refine V_regionZ Γ Δ Θ [] [0, 1, 2, 6, 7, 8, 9, 10, 11, 12, 13, 14, 15, 16, 17, 18, 41, 48, 67, 68, 69, 90, 91, 92, 98, 103, 115] (evs ?_)
                  all_goals (try with_reducible (repeat' (first | apply And.intro | intro _)))
                  all_goals (try (first | with_reducible refine wa_id ?_ | exact True.intro | omega | exact pixel_z v wD (gw v x y m k) _ _ (by assumption) | exact ssort_fx _ (by assumption) | exact smax_fn _ (by assumption) | exact smin_fn _ (by assumption) | (rw [sortL_len]; omega)))
                  refine V_draw Γ [] [0, 1, 2, 6, 7, 8, 9, 10, 11, 12, 13, 14, 15, 16, 17, 18, 41, 48, 67, 68, 69, 90, 91, 92, 98, 103, 115] mixed (by kernel_rfl) (evs ?_)
                  have hb0 := wk_bd hv (c := 0) (m := m) (k := k) (by omega) (by omega)
                  have hb1 := wk_bd hv (c := 1) (m := m) (k := k) (by omega) (by omega)
                  have hb2 := wk_bd hv (c := 2) (m := m) (k := k) (by omega) (by omega)
                  have hb3 := wk_bd hv (c := 3) (m := m) (k := k) (by omega) (by omega)
                  all_goals (try with_reducible (repeat' (first | apply And.intro | intro _)))
                  all_goals (try (first | with_reducible refine wa_id ?_ | exact True.intro | omega | exact pixel_z v wD (gw v x y m k) _ _ (by assumption) | exact ssort_fx _ (by assumption) | exact smax_fn _ (by assumption) | exact smin_fn _ (by assumption) | (rw [sortL_len]; omega)))
                  refine V_regionZ Γ Δ Θ [] [0, 1, 2, 6, 7, 8, 9, 10, 11, 12, 13, 14, 15, 16, 17, 18, 41, 48, 67, 68, 69, 90, 91, 92, 98, 103, 115] (evs ?_)
                  all_goals (try with_reducible (repeat' (first | apply And.intro | intro _)))
                  all_goals (try (first | with_reducible refine wa_id ?_ | exact True.intro | omega | exact pixel_z v wD (gw v x y m k) _ _ (by assumption) | exact ssort_fx _ (by assumption) | exact smax_fn _ (by assumption) | exact smin_fn _ (by assumption) | (rw [sortL_len]; omega)))
                  refine V_next [(20022, some 82)] 3 (evs ?_) ?_ ?_
                  all_goals (try with_reducible (repeat' (first | apply And.intro | intro _)))
                  all_goals (first | exact True.intro | omega | (first | rfl | (rw [winK_succ]; simp; done) | (rw [winK_succ, List.map_append]; rfl)))
                · refine WA_seq (x := (fcd Tryz.f33 [1, 1, 1, 0, 1, 0, 0, 1, 0, 0, 1, 0, 0, 1, 0, 0, 1, 1, 0, 0, 0])) (y := (fcd Tryz.f33 [1, 1, 1, 0, 1, 0, 0, 1, 0, 0, 1, 0, 0, 1, 0, 0, 1, 1, 0, 0, 1])) ?_
                  refine V_regionZ Γ Δ Θ [] [0, 1, 2, 6, 7, 8, 9, 10, 11, 12, 13, 14, 15, 16, 17, 18, 41, 48, 67, 68, 69, 90, 91, 92, 98, 103, 115] (evs ?_)
                  all_goals (try with_reducible (repeat' (first | apply And.intro | intro _)))
                  all_goals (try (first | with_reducible refine wa_id ?_ | exact True.intro | omega | exact pixel_z v wD (gw v x y m k) _ _ (by assumption) | exact ssort_fx _ (by assumption) | exact smax_fn _ (by assumption) | exact smin_fn _ (by assumption) | (rw [sortL_len]; omega)))
                  refine WA_seq (x := (fcd Tryz.f33 [1, 1, 1, 0, 1, 0, 0, 1, 0, 0, 1, 0, 0, 1, 0, 0, 1, 1, 0, 0, 1, 0])) (y := (fcd Tryz.f33 [1, 1, 1, 0, 1, 0, 0, 1, 0, 0, 1, 0, 0, 1, 0, 0, 1, 1, 0, 0, 1, 1])) ?_
                  refine V_cond (evs ?_)
                  refine ⟨fun hc => ?_, fun hc => by exact absurd hc (by omega)⟩
                  refine WA_skip ?_
                  refine WA_seq (x := (fcd Tryz.f33 [1, 1, 1, 0, 1, 0, 0, 1, 0, 0, 1, 0, 0, 1, 0, 0, 1, 1, 0, 0, 1, 1, 0])) (y := (fcd Tryz.f33 [1, 1, 1, 0, 1, 0, 0, 1, 0, 0, 1, 0, 0, 1, 0, 0, 1, 1, 0, 0, 1, 1, 1])) ?_
                  refine WA_block (c := (fcd Tryz.f33 [1, 1, 1, 0, 1, 0, 0, 1, 0, 0, 1, 0, 0, 1, 0, 0, 1, 1, 0, 0, 1, 1, 0, 0])) ?_
                  refine WA_seq (x := (fcd Tryz.f33 [1, 1, 1, 0, 1, 0, 0, 1, 0, 0, 1, 0, 0, 1, 0, 0, 1, 1, 0, 0, 1, 1, 0, 0, 0])) (y := (fcd Tryz.f33 [1, 1, 1, 0, 1, 0, 0, 1, 0, 0, 1, 0, 0, 1, 0, 0, 1, 1, 0, 0, 1, 1, 0, 0, 1])) ?_
                  refine V_regionZ Γ Δ Θ [] [0, 1, 2, 6, 7, 8, 9, 10, 11, 12, 13, 14, 15, 16, 17, 18, 41, 48, 67, 68, 69, 90, 91, 92, 98, 103, 115] (evs ?_)
                  all_goals (try with_reducible (repeat' (first | apply And.intro | intro _)))
                  all_goals (try (first | with_reducible refine wa_id ?_ | exact True.intro | omega | exact pixel_z v wD (gw v x y m k) _ _ (by assumption) | exact ssort_fx _ (by assumption) | exact smax_fn _ (by assumption) | exact smin_fn _ (by assumption) | (rw [sortL_len]; omega)))
                  refine V_draw Γ [] [0, 1, 2, 6, 7, 8, 9, 10, 11, 12, 13, 14, 15, 16, 17, 18, 41, 48, 67, 68, 69, 90, 91, 92, 98, 103, 115] mixed (by kernel_rfl) (evs ?_)
                  have hb0 := wk_bd hv (c := 0) (m := m) (k := k) (by omega) (by omega)
                  have hb1 := wk_bd hv (c := 1) (m := m) (k := k) (by omega) (by omega)
                  have hb2 := wk_bd hv (c := 2) (m := m) (k := k) (by omega) (by omega)
                  have hb3 := wk_bd hv (c := 3) (m := m) (k := k) (by omega) (by omega)
                  all_goals (try with_reducible (repeat' (first | apply And.intro | intro _)))
                  all_goals (try (first | with_reducible refine wa_id ?_ | exact True.intro | omega | exact pixel_z v wD (gw v x y m k) _ _ (by assumption) | exact ssort_fx _ (by assumption) | exact smax_fn _ (by assumption) | exact smin_fn _ (by assumption) | (rw [sortL_len]; omega)))
                  refine V_regionZ Γ Δ Θ [] [0, 1, 2, 6, 7, 8, 9, 10, 11, 12, 13, 14, 15, 16, 17, 18, 41, 48, 67, 68, 69, 90, 91, 92, 98, 103, 115] (evs ?_)
                  all_goals (try with_reducible (repeat' (first | apply And.intro | intro _)))
                  all_goals (try (first | with_reducible refine wa_id ?_ | exact True.intro | omega | exact pixel_z v wD (gw v x y m k) _ _ (by assumption) | exact ssort_fx _ (by assumption) | exact smax_fn _ (by assumption) | exact smin_fn _ (by assumption) | (rw [sortL_len]; omega)))
                  refine V_next [(20023, some 82)] 4 (evs ?_) ?_ ?_
                  all_goals (try with_reducible (repeat' (first | apply And.intro | intro _)))
                  all_goals (first | exact True.intro | omega | (first | rfl | (rw [winK_succ]; simp; done) | (rw [winK_succ, List.map_append]; rfl)))
                · refine WA_seq (x := (fcd Tryz.f33 [1, 1, 1, 0, 1, 0, 0, 1, 0, 0, 1, 0, 0, 1, 0, 0, 1, 1, 0, 0, 0])) (y := (fcd Tryz.f33 [1, 1, 1, 0, 1, 0, 0, 1, 0, 0, 1, 0, 0, 1, 0, 0, 1, 1, 0, 0, 1])) ?_
                  refine V_regionZ Γ Δ Θ [] [0, 1, 2, 6, 7, 8, 9, 10, 11, 12, 13, 14, 15, 16, 17, 18, 41, 48, 67, 68, 69, 90, 91, 92, 98, 103, 115] (evs ?_)
                  all_goals (try with_reducible (repeat' (first | apply And.intro | intro _)))
                  all_goals (try (first | with_reducible refine wa_id ?_ | exact True.intro | omega | exact pixel_z v wD (gw v x y m k) _ _ (by assumption) | exact ssort_fx _ (by assumption) | exact smax_fn _ (by assumption) | exact smin_fn _ (by assumption) | (rw [sortL_len]; omega)))
                  refine WA_seq (x := (fcd Tryz.f33 [1, 1, 1, 0, 1, 0, 0, 1, 0, 0, 1, 0, 0, 1, 0, 0, 1, 1, 0, 0, 1, 0])) (y := (fcd Tryz.f33 [1, 1, 1, 0, 1, 0, 0, 1, 0, 0, 1, 0, 0, 1, 0, 0, 1, 1, 0, 0, 1, 1])) ?_
                  refine V_cond (evs ?_)
                  refine ⟨fun hc => by exact absurd hc (by omega), fun hc => ?_⟩
                  refine V_exit (evs ?_)
                  refine V_regionZ Γ Δ Θ [] [0, 1, 2, 6, 7, 8, 9, 10, 11, 12, 13, 14, 15, 16, 17, 18, 41, 48, 67, 68, 69, 90, 91, 92, 98, 103, 115] (evs ?_)
                  (try simp (maxSteps := 10000000) (disch := omega) only [w64])
                  all_goals (try with_reducible (repeat' (first | apply And.intro | intro _)))
                  all_goals (try (first | with_reducible refine wa_id ?_ | exact True.intro | omega | exact pixel_z v wD (gw v x y m k) _ _ (by assumption) | exact ssort_fx _ (by assumption) | exact smax_fn _ (by assumption) | exact smin_fn _ (by assumption) | (rw [sortL_len]; omega)))
                  refine V_next [(20010, some 20020), (20011, some 20021), (20012, some 20022), (20013, some 20023)] (k + 1) (evs ?_) ?_ ?_
                  all_goals (try with_reducible (repeat' (first | apply And.intro | intro _)))
                  all_goals (first | exact True.intro | omega | (first | (push_cast; omega) | rfl))
            · refine V_exit (evs ?_)
              refine V_regionZ Γ Δ Θ [] [0, 1, 2, 6, 7, 8, 9, 10, 11, 12, 13, 14, 15, 16, 17, 18, 41, 48, 67, 68, 69, 90, 91, 92, 98, 103, 115] (evs ?_)
              (try simp (maxSteps := 10000000) (disch := omega) only [w64])
              all_goals (try with_reducible (repeat' (first | apply And.intro | intro _)))
              all_goals (try (first | with_reducible refine wa_id ?_ | exact True.intro | omega | exact pixel_z v wD (gw v x y m k) _ _ (by assumption) | exact ssort_fx _ (by assumption) | exact smax_fn _ (by assumption) | exact smin_fn _ (by assumption) | (rw [sortL_len]; omega)))
              refine V_next [(20000, some 20010), (20001, some 20011), (20002, some 20012), (20003, some 20013)] (m + 1) (evs ?_) ?_ ?_
              all_goals (try with_reducible (repeat' (first | apply And.intro | intro _)))
              all_goals (first | exact True.intro | omega | (first | (push_cast; omega) | (rw [← winK_over v x y _ m k (by omega)]; done)))
        · refine V_exit (evs ?_)
          refine WA_seq (x := (fcd Tryz.f33 [1, 1, 1, 1, 0])) (y := (fcd Tryz.f33 [1, 1, 1, 1, 1])) ?_
          refine V_regionZ Γ Δ Θ [] [0, 1, 2, 6, 7, 8, 9, 10, 11, 12, 13, 14, 15, 16, 17, 18, 41, 48, 67, 68, 69, 90, 91, 92, 98, 103, 115] (evs ?_)
          have em : m = (2 * v.rad + 1).toNat := by omega
          subst em
          simp only [winSe]
          have ws0 := (ws_bd hv 0).1
          have ws1 := (ws_bd hv 1).1
          have ws2 := (ws_bd hv 2).1
          have ws3 := (ws_bd hv 3).1
          have wt0 := (ws_bd hv 0).2
          have wt1 := (ws_bd hv 1).2
          have wt2 := (ws_bd hv 2).2
          have wt3 := (ws_bd hv 3).2
          all_goals (try with_reducible (repeat' (first | apply And.intro | intro _)))
          all_goals (try (first | with_reducible refine wa_id ?_ | exact True.intro | omega | exact pixel_z v wD (gw v x y m k) _ _ (by assumption) | exact ssort_fx _ (by assumption) | exact smax_fn _ (by assumption) | exact smin_fn _ (by assumption) | (rw [sortL_len]; omega)))
          refine WA_seq (x := (fcd Tryz.f33 [1, 1, 1, 1, 1, 0])) (y := (fcd Tryz.f33 [1, 1, 1, 1, 1, 1])) ?_
          refine WA_seq (x := (fcd Tryz.f33 [1, 1, 1, 1, 1, 0, 0])) (y := (fcd Tryz.f33 [1, 1, 1, 1, 1, 0, 1])) ?_
          refine V_regionZ Γ Δ Θ [] [0, 1, 2, 6, 7, 8, 9, 10, 11, 12, 13, 14, 15, 16, 17, 18, 41, 48, 67, 68, 69, 90, 91, 92, 98, 103, 115] (evs ?_)
          all_goals (try with_reducible (repeat' (first | apply And.intro | intro _)))
          all_goals (try (first | with_reducible refine wa_id ?_ | exact True.intro | omega | exact pixel_z v wD (gw v x y m k) _ _ (by assumption) | exact ssort_fx _ (by assumption) | exact smax_fn _ (by assumption) | exact smin_fn _ (by assumption) | (rw [sortL_len]; omega)))
          refine WA_block (c := (fcd Tryz.f33 [1, 1, 1, 1, 1, 0, 1, 0])) ?_
          refine V_loop (c := (fcd Tryz.f33 [1, 1, 1, 1, 1, 0, 1, 0, 0])) (α := Int) [15, 16, 91, 92, 98, 103, 115] [14, 20000, 20001, 20002, 20003, 20100, 20101, 20102, 20103, 20600, 20601, 20602, 20603, 21900, 21901, 21902, 21903, 30000] (fun q => [(91, .dat (.i q))]) (fun q => (14, some (true, .box 88 [.dat (.i (fd v x y q 0)), .dat (.i (fd v x y q 1)), .dat (.i (fd v x y q 2)), .dat (.i (fd v x y q 3))])) :: rkH 3 64 30000 v wD ⟨20000, 20001, 20002, 20003⟩ (gs v x y q)) (fun q => 0 ≤ q ∧ q ≤ 4) (fun q => (4 - q).toNat) 0 [] ?_ (evs ?_) ?_
          · omega
          · (try with_reducible (repeat' (first | apply And.intro | intro _)))
            all_goals (first | exact True.intro | omega | (first | rfl))
          · intro q hQ
            obtain rfl | rfl | rfl | rfl | rfl : q = 0 ∨ q = 1 ∨ q = 2 ∨ q = 3 ∨ q = 4 := by omega
            · refine WA_seq (x := (fcd Tryz.f33 [1, 1, 1, 1, 1, 0, 1, 0, 0, 0])) (y := (fcd Tryz.f33 [1, 1, 1, 1, 1, 0, 1, 0, 0, 1])) ?_
              refine V_regionZ Γ Δ Θ [] [0, 1, 2, 6, 7, 8, 9, 10, 11, 12, 13, 14, 15, 16, 17, 18, 41, 48, 67, 68, 69, 90, 91, 92, 98, 103, 115] (evs ?_)
              all_goals (try with_reducible (repeat' (first | apply And.intro | intro _)))
              all_goals (try (first | with_reducible refine wa_id ?_ | exact True.intro | omega | exact pixel_z v wD (gw v x y m k) _ _ (by assumption) | exact ssort_fx _ (by assumption) | exact smax_fn _ (by assumption) | exact smin_fn _ (by assumption) | (rw [sortL_len]; omega)))
              refine WA_seq (x := (fcd Tryz.f33 [1, 1, 1, 1, 1, 0, 1, 0, 0, 1, 0])) (y := (fcd Tryz.f33 [1, 1, 1, 1, 1, 0, 1, 0, 0, 1, 1])) ?_
              refine V_cond (evs ?_)
              refine ⟨fun hc => ?_, fun hc => by exact absurd hc (by omega)⟩
              refine WA_skip ?_
              refine WA_seq (x := (fcd Tryz.f33 [1, 1, 1, 1, 1, 0, 1, 0, 0, 1, 1, 0])) (y := (fcd Tryz.f33 [1, 1, 1, 1, 1, 0, 1, 0, 0, 1, 1, 1])) ?_
              refine WA_block (c := (fcd Tryz.f33 [1, 1, 1, 1, 1, 0, 1, 0, 0, 1, 1, 0, 0])) ?_
              refine WA_seq (x := (fcd Tryz.f33 [1, 1, 1, 1, 1, 0, 1, 0, 0, 1, 1, 0, 0, 0])) (y := (fcd Tryz.f33 [1, 1, 1, 1, 1, 0, 1, 0, 0, 1, 1, 0, 0, 1])) ?_
              refine V_regionZ Γ Δ Θ [] [0, 1, 2, 6, 7, 8, 9, 10, 11, 12, 13, 14, 15, 16, 17, 18, 41, 48, 67, 68, 69, 90, 91, 92, 98, 103, 115] (evs ?_)
              all_goals (try with_reducible (repeat' (first | apply And.intro | intro _)))
              all_goals (try (first | with_reducible refine wa_id ?_ | exact True.intro | omega | exact pixel_z v wD (gw v x y m k) _ _ (by assumption) | exact ssort_fx _ (by assumption) | exact smax_fn _ (by assumption) | exact smin_fn _ (by assumption) | (rw [sortL_len]; omega)))
              refine WA_seq (x := (fcd Tryz.f33 [1, 1, 1, 1, 1, 0, 1, 0, 0, 1, 1, 0, 0, 1, 0])) (y := (fcd Tryz.f33 [1, 1, 1, 1, 1, 0, 1, 0, 0, 1, 1, 0, 0, 1, 1])) ?_
              refine V_regionZ Γ Δ Θ [] [0, 1, 2, 6, 7, 8, 9, 10, 11, 12, 13, 14, 15, 16, 17, 18, 41, 48, 67, 68, 69, 90, 91, 92, 98, 103, 115] (evs ?_)
              all_goals (try with_reducible (repeat' (first | apply And.intro | intro _)))
              all_goals (try (first | with_reducible refine wa_id ?_ | exact True.intro | omega | exact pixel_z v wD (gw v x y m k) _ _ (by assumption) | exact ssort_fx _ (by assumption) | exact smax_fn _ (by assumption) | exact smin_fn _ (by assumption) | (rw [sortL_len]; omega)))
              refine WA_block (c := (fcd Tryz.f33 [1, 1, 1, 1, 1, 0, 1, 0, 0, 1, 1, 0, 0, 1, 1, 0])) ?_
              refine WA_seq (x := (fcd Tryz.f33 [1, 1, 1, 1, 1, 0, 1, 0, 0, 1, 1, 0, 0, 1, 1, 0, 0])) (y := (fcd Tryz.f33 [1, 1, 1, 1, 1, 0, 1, 0, 0, 1, 1, 0, 0, 1, 1, 0, 1])) ?_
              refine V_regionZ Γ Δ Θ [] [0, 1, 2, 6, 7, 8, 9, 10, 11, 12, 13, 14, 15, 16, 17, 18, 41, 48, 67, 68, 69, 90, 91, 92, 98, 103, 115] (evs ?_)
              all_goals (try with_reducible (repeat' (first | apply And.intro | intro _)))
              all_goals (try (first | with_reducible refine wa_id ?_ | exact True.intro | omega | exact pixel_z v wD (gw v x y m k) _ _ (by assumption) | exact ssort_fx _ (by assumption) | exact smax_fn _ (by assumption) | exact smin_fn _ (by assumption) | (rw [sortL_len]; omega)))
              refine V_cond (evs ?_)
              refine ⟨fun hc => ?_, fun hc => ?_⟩
              · refine WA_seq (x := (fcd Tryz.f33 [1, 1, 1, 1, 1, 0, 1, 0, 0, 1, 1, 0, 0, 1, 1, 0, 1, 0, 0])) (y := (fcd Tryz.f33 [1, 1, 1, 1, 1, 0, 1, 0, 0, 1, 1, 0, 0, 1, 1, 0, 1, 0, 1])) ?_
                refine V_regionZ Γ Δ Θ [] [0, 1, 2, 6, 7, 8, 9, 10, 11, 12, 13, 14, 15, 16, 17, 18, 41, 48, 67, 68, 69, 90, 91, 92, 98, 103, 115] (evs ?_)
                all_goals (try with_reducible (repeat' (first | apply And.intro | intro _)))
                all_goals (try (first | with_reducible refine wa_id ?_ | exact True.intro | omega | exact pixel_z v wD (gw v x y m k) _ _ (by assumption) | exact ssort_fx _ (by assumption) | exact smax_fn _ (by assumption) | exact smin_fn _ (by assumption) | (rw [sortL_len]; omega)))
                refine V_regionZ Γ Δ Θ [] [0, 1, 2, 6, 7, 8, 9, 10, 11, 12, 13, 14, 15, 16, 17, 18, 41, 48, 67, 68, 69, 90, 91, 92, 98, 103, 115] (evs ?_)
                have hf0 := hlf (winS v x y 0).length
                have hf1 := hlf (winS v x y 1).length
                have hf2 := hlf (winS v x y 2).length
                have hf3 := hlf (winS v x y 3).length
                (try simp (maxSteps := 10000000) (disch := omega) only [w64])
                (try simp only [hf0.1])
                (try simp only [hf1.1])
                (try simp only [hf2.1])
                (try simp only [hf3.1])
                all_goals (try with_reducible (repeat' (first | apply And.intro | intro _)))
                all_goals (try (first | with_reducible refine wa_id ?_ | exact True.intro | omega | exact pixel_z v wD (gw v x y m k) _ _ (by assumption) | exact ssort_fx _ (by assumption) | exact smax_fn _ (by assumption) | exact smin_fn _ (by assumption) | (rw [sortL_len]; omega)))
                refine V_regionZ Γ Δ Θ [] [0, 1, 2, 6, 7, 8, 9, 10, 11, 12, 13, 14, 15, 16, 17, 18, 41, 48, 67, 68, 69, 90, 91, 92, 98, 103, 115] (evs ?_)
                all_goals (try with_reducible (repeat' (first | apply And.intro | intro _)))
                all_goals (try (first | with_reducible refine wa_id ?_ | exact True.intro | omega | exact pixel_z v wD (gw v x y m k) _ _ (by assumption) | exact ssort_fx _ (by assumption) | exact smax_fn _ (by assumption) | exact smin_fn _ (by assumption) | (rw [sortL_len]; omega)))
                refine V_next [] 1 (evs ?_) ?_ ?_
                all_goals (try with_reducible (repeat' (first | apply And.intro | intro _)))
                all_goals (first | exact True.intro | omega | (first | rfl | (simp [fd, selI, so, so_len, sortL_len, hc]; done) | (simp [fd, selI, so, so_len, sortL_len, hc, ‹¬ v.kind = 4›]; done)))
              · refine WA_seq (x := (fcd Tryz.f33 [1, 1, 1, 1, 1, 0, 1, 0, 0, 1, 1, 0, 0, 1, 1, 0, 1, 1, 0])) (y := (fcd Tryz.f33 [1, 1, 1, 1, 1, 0, 1, 0, 0, 1, 1, 0, 0, 1, 1, 0, 1, 1, 1])) ?_
                refine V_regionZ Γ Δ Θ [] [0, 1, 2, 6, 7, 8, 9, 10, 11, 12, 13, 14, 15, 16, 17, 18, 41, 48, 67, 68, 69, 90, 91, 92, 98, 103, 115] (evs ?_)
                all_goals (try with_reducible (repeat' (first | apply And.intro | intro _)))
                all_goals (try (first | with_reducible refine wa_id ?_ | exact True.intro | omega | exact pixel_z v wD (gw v x y m k) _ _ (by assumption) | exact ssort_fx _ (by assumption) | exact smax_fn _ (by assumption) | exact smin_fn _ (by assumption) | (rw [sortL_len]; omega)))
                refine V_cond (evs ?_)
                refine ⟨fun hc => ?_, fun hc => ?_⟩
                · refine V_regionZ Γ Δ Θ [] [0, 1, 2, 6, 7, 8, 9, 10, 11, 12, 13, 14, 15, 16, 17, 18, 41, 48, 67, 68, 69, 90, 91, 92, 98, 103, 115] (evs ?_)
                  all_goals (try with_reducible (repeat' (first | apply And.intro | intro _)))
                  all_goals (try (first | with_reducible refine wa_id ?_ | exact True.intro | exact smax_fn _ (by omega) | omega | exact pixel_z v wD (gw v x y m k) _ _ (by assumption) | exact ssort_fx _ (by assumption) | exact smax_fn _ (by assumption) | exact smin_fn _ (by assumption) | (rw [sortL_len]; omega)))
                  refine V_regionZ Γ Δ Θ [] [0, 1, 2, 6, 7, 8, 9, 10, 11, 12, 13, 14, 15, 16, 17, 18, 41, 48, 67, 68, 69, 90, 91, 92, 98, 103, 115] (evs ?_)
                  all_goals (try with_reducible (repeat' (first | apply And.intro | intro _)))
                  all_goals (try (first | with_reducible refine wa_id ?_ | exact True.intro | omega | exact pixel_z v wD (gw v x y m k) _ _ (by assumption) | exact ssort_fx _ (by assumption) | exact smax_fn _ (by assumption) | exact smin_fn _ (by assumption) | (rw [sortL_len]; omega)))
                  refine V_next [] 1 (evs ?_) ?_ ?_
                  all_goals (try with_reducible (repeat' (first | apply And.intro | intro _)))
                  all_goals (first | exact True.intro | omega | (first | rfl | (simp [fd, selI, so, so_len, sortL_len, hc]; done) | (simp [fd, selI, so, so_len, sortL_len, hc, ‹¬ v.kind = 4›]; done)))
                · refine V_regionZ Γ Δ Θ [] [0, 1, 2, 6, 7, 8, 9, 10, 11, 12, 13, 14, 15, 16, 17, 18, 41, 48, 67, 68, 69, 90, 91, 92, 98, 103, 115] (evs ?_)
                  all_goals (try with_reducible (repeat' (first | apply And.intro | intro _)))
                  all_goals (try (first | with_reducible refine wa_id ?_ | exact True.intro | exact smin_fn _ (by omega) | omega | exact pixel_z v wD (gw v x y m k) _ _ (by assumption) | exact ssort_fx _ (by assumption) | exact smax_fn _ (by assumption) | exact smin_fn _ (by assumption) | (rw [sortL_len]; omega)))
                  refine V_regionZ Γ Δ Θ [] [0, 1, 2, 6, 7, 8, 9, 10, 11, 12, 13, 14, 15, 16, 17, 18, 41, 48, 67, 68, 69, 90, 91, 92, 98, 103, 115] (evs ?_)
                  all_goals (try with_reducible (repeat' (first | apply And.intro | intro _)))
                  all_goals (try (first | with_reducible refine wa_id ?_ | exact True.intro | omega | exact pixel_z v wD (gw v x y m k) _ _ (by assumption) | exact ssort_fx _ (by assumption) | exact smax_fn _ (by assumption) | exact smin_fn _ (by assumption) | (rw [sortL_len]; omega)))
                  refine V_next [] 1 (evs ?_) ?_ ?_
                  all_goals (try with_reducible (repeat' (first | apply And.intro | intro _)))
                  all_goals (first | exact True.intro | omega | (first | rfl | (simp [fd, selI, so, so_len, sortL_len, hc]; done) | (simp [fd, selI, so, so_len, sortL_len, hc, ‹¬ v.kind = 4›]; done)))
            · refine WA_seq (x := (fcd Tryz.f33 [1, 1, 1, 1, 1, 0, 1, 0, 0, 0])) (y := (fcd Tryz.f33 [1, 1, 1, 1, 1, 0, 1, 0, 0, 1])) ?_
              refine V_regionZ Γ Δ Θ [] [0, 1, 2, 6, 7, 8, 9, 10, 11, 12, 13, 14, 15, 16, 17, 18, 41, 48, 67, 68, 69, 90, 91, 92, 98, 103, 115] (evs ?_)
              all_goals (try with_reducible (repeat' (first | apply And.intro | intro _)))
              all_goals (try (first | with_reducible refine wa_id ?_ | exact True.intro | omega | exact pixel_z v wD (gw v x y m k) _ _ (by assumption) | exact ssort_fx _ (by assumption) | exact smax_fn _ (by assumption) | exact smin_fn _ (by assumption) | (rw [sortL_len]; omega)))
              refine WA_seq (x := (fcd Tryz.f33 [1, 1, 1, 1, 1, 0, 1, 0, 0, 1, 0])) (y := (fcd Tryz.f33 [1, 1, 1, 1, 1, 0, 1, 0, 0, 1, 1])) ?_
              refine V_cond (evs ?_)
              refine ⟨fun hc => ?_, fun hc => by exact absurd hc (by omega)⟩
              refine WA_skip ?_
              refine WA_seq (x := (fcd Tryz.f33 [1, 1, 1, 1, 1, 0, 1, 0, 0, 1, 1, 0])) (y := (fcd Tryz.f33 [1, 1, 1, 1, 1, 0, 1, 0, 0, 1, 1, 1])) ?_
              refine WA_block (c := (fcd Tryz.f33 [1, 1, 1, 1, 1, 0, 1, 0, 0, 1, 1, 0, 0])) ?_
              refine WA_seq (x := (fcd Tryz.f33 [1, 1, 1, 1, 1, 0, 1, 0, 0, 1, 1, 0, 0, 0])) (y := (fcd Tryz.f33 [1, 1, 1, 1, 1, 0, 1, 0, 0, 1, 1, 0, 0, 1])) ?_
              refine V_regionZ Γ Δ Θ [] [0, 1, 2, 6, 7, 8, 9, 10, 11, 12, 13, 14, 15, 16, 17, 18, 41, 48, 67, 68, 69, 90, 91, 92, 98, 103, 115] (evs ?_)
              all_goals (try with_reducible (repeat' (first | apply And.intro | intro _)))
              all_goals (try (first | with_reducible refine wa_id ?_ | exact True.intro | omega | exact pixel_z v wD (gw v x y m k) _ _ (by assumption) | exact ssort_fx _ (by assumption) | exact smax_fn _ (by assumption) | exact smin_fn _ (by assumption) | (rw [sortL_len]; omega)))
              refine WA_seq (x := (fcd Tryz.f33 [1, 1, 1, 1, 1, 0, 1, 0, 0, 1, 1, 0, 0, 1, 0])) (y := (fcd Tryz.f33 [1, 1, 1, 1, 1, 0, 1, 0, 0, 1, 1, 0, 0, 1, 1])) ?_
              refine V_regionZ Γ Δ Θ [] [0, 1, 2, 6, 7, 8, 9, 10, 11, 12, 13, 14, 15, 16, 17, 18, 41, 48, 67, 68, 69, 90, 91, 92, 98, 103, 115] (evs ?_)
              all_goals (try with_reducible (repeat' (first | apply And.intro | intro _)))
              all_goals (try (first | with_reducible refine wa_id ?_ | exact True.intro | omega | exact pixel_z v wD (gw v x y m k) _ _ (by assumption) | exact ssort_fx _ (by assumption) | exact smax_fn _ (by assumption) | exact smin_fn _ (by assumption) | (rw [sortL_len]; omega)))
              refine WA_block (c := (fcd Tryz.f33 [1, 1, 1, 1, 1, 0, 1, 0, 0, 1, 1, 0, 0, 1, 1, 0])) ?_
              refine WA_seq (x := (fcd Tryz.f33 [1, 1, 1, 1, 1, 0, 1, 0, 0, 1, 1, 0, 0, 1, 1, 0, 0])) (y := (fcd Tryz.f33 [1, 1, 1, 1, 1, 0, 1, 0, 0, 1, 1, 0, 0, 1, 1, 0, 1])) ?_
              refine V_regionZ Γ Δ Θ [] [0, 1, 2, 6, 7, 8, 9, 10, 11, 12, 13, 14, 15, 16, 17, 18, 41, 48, 67, 68, 69, 90, 91, 92, 98, 103, 115] (evs ?_)
              all_goals (try with_reducible (repeat' (first | apply And.intro | intro _)))
              all_goals (try (first | with_reducible refine wa_id ?_ | exact True.intro | omega | exact pixel_z v wD (gw v x y m k) _ _ (by assumption) | exact ssort_fx _ (by assumption) | exact smax_fn _ (by assumption) | exact smin_fn _ (by assumption) | (rw [sortL_len]; omega)))
              refine V_cond (evs ?_)
              refine ⟨fun hc => ?_, fun hc => ?_⟩
              · refine WA_seq (x := (fcd Tryz.f33 [1, 1, 1, 1, 1, 0, 1, 0, 0, 1, 1, 0, 0, 1, 1, 0, 1, 0, 0])) (y := (fcd Tryz.f33 [1, 1, 1, 1, 1, 0, 1, 0, 0, 1, 1, 0, 0, 1, 1, 0, 1, 0, 1])) ?_
                refine V_regionZ Γ Δ Θ [] [0, 1, 2, 6, 7, 8, 9, 10, 11, 12, 13, 14, 15, 16, 17, 18, 41, 48, 67, 68, 69, 90, 91, 92, 98, 103, 115] (evs ?_)
                all_goals (try with_reducible (repeat' (first | apply And.intro | intro _)))
                all_goals (try (first | with_reducible refine wa_id ?_ | exact True.intro | omega | exact pixel_z v wD (gw v x y m k) _ _ (by assumption) | exact ssort_fx _ (by assumption) | exact smax_fn _ (by assumption) | exact smin_fn _ (by assumption) | (rw [sortL_len]; omega)))
                refine V_regionZ Γ Δ Θ [] [0, 1, 2, 6, 7, 8, 9, 10, 11, 12, 13, 14, 15, 16, 17, 18, 41, 48, 67, 68, 69, 90, 91, 92, 98, 103, 115] (evs ?_)
                have hf0 := hlf (winS v x y 0).length
                have hf1 := hlf (winS v x y 1).length
                have hf2 := hlf (winS v x y 2).length
                have hf3 := hlf (winS v x y 3).length
                (try simp (maxSteps := 10000000) (disch := omega) only [w64])
                (try simp only [hf0.1])
                (try simp only [hf1.1])
                (try simp only [hf2.1])
                (try simp only [hf3.1])
                all_goals (try with_reducible (repeat' (first | apply And.intro | intro _)))
                all_goals (try (first | with_reducible refine wa_id ?_ | exact True.intro | omega | exact pixel_z v wD (gw v x y m k) _ _ (by assumption) | exact ssort_fx _ (by assumption) | exact smax_fn _ (by assumption) | exact smin_fn _ (by assumption) | (rw [sortL_len]; omega)))
                refine V_regionZ Γ Δ Θ [] [0, 1, 2, 6, 7, 8, 9, 10, 11, 12, 13, 14, 15, 16, 17, 18, 41, 48, 67, 68, 69, 90, 91, 92, 98, 103, 115] (evs ?_)
                all_goals (try with_reducible (repeat' (first | apply And.intro | intro _)))
                all_goals (try (first | with_reducible refine wa_id ?_ | exact True.intro | omega | exact pixel_z v wD (gw v x y m k) _ _ (by assumption) | exact ssort_fx _ (by assumption) | exact smax_fn _ (by assumption) | exact smin_fn _ (by assumption) | (rw [sortL_len]; omega)))
                refine V_next [] 2 (evs ?_) ?_ ?_
                all_goals (try with_reducible (repeat' (first | apply And.intro | intro _)))
                all_goals (first | exact True.intro | omega | (first | rfl | (simp [fd, selI, so, so_len, sortL_len, hc]; done) | (simp [fd, selI, so, so_len, sortL_len, hc, ‹¬ v.kind = 4›]; done)))
              · refine WA_seq (x := (fcd Tryz.f33 [1, 1, 1, 1, 1, 0, 1, 0, 0, 1, 1, 0, 0, 1, 1, 0, 1, 1, 0])) (y := (fcd Tryz.f33 [1, 1, 1, 1, 1, 0, 1, 0, 0, 1, 1, 0, 0, 1, 1, 0, 1, 1, 1])) ?_
                refine V_regionZ Γ Δ Θ [] [0, 1, 2, 6, 7, 8, 9, 10, 11, 12, 13, 14, 15, 16, 17, 18, 41, 48, 67, 68, 69, 90, 91, 92, 98, 103, 115] (evs ?_)
                all_goals (try with_reducible (repeat' (first | apply And.intro | intro _)))
                all_goals (try (first | with_reducible refine wa_id ?_ | exact True.intro | omega | exact pixel_z v wD (gw v x y m k) _ _ (by assumption) | exact ssort_fx _ (by assumption) | exact smax_fn _ (by assumption) | exact smin_fn _ (by assumption) | (rw [sortL_len]; omega)))
                refine V_cond (evs ?_)
                refine ⟨fun hc => ?_, fun hc => ?_⟩
                · refine V_regionZ Γ Δ Θ [] [0, 1, 2, 6, 7, 8, 9, 10, 11, 12, 13, 14, 15, 16, 17, 18, 41, 48, 67, 68, 69, 90, 91, 92, 98, 103, 115] (evs ?_)
                  all_goals (try with_reducible (repeat' (first | apply And.intro | intro _)))
                  all_goals (try (first | with_reducible refine wa_id ?_ | exact True.intro | exact smax_fn _ (by omega) | omega | exact pixel_z v wD (gw v x y m k) _ _ (by assumption) | exact ssort_fx _ (by assumption) | exact smax_fn _ (by assumption) | exact smin_fn _ (by assumption) | (rw [sortL_len]; omega)))
                  refine V_regionZ Γ Δ Θ [] [0, 1, 2, 6, 7, 8, 9, 10, 11, 12, 13, 14, 15, 16, 17, 18, 41, 48, 67, 68, 69, 90, 91, 92, 98, 103, 115] (evs ?_)
                  all_goals (try with_reducible (repeat' (first | apply And.intro | intro _)))
                  all_goals (try (first | with_reducible refine wa_id ?_ | exact True.intro | omega | exact pixel_z v wD (gw v x y m k) _ _ (by assumption) | exact ssort_fx _ (by assumption) | exact smax_fn _ (by assumption) | exact smin_fn _ (by assumption) | (rw [sortL_len]; omega)))
                  refine V_next [] 2 (evs ?_) ?_ ?_
                  all_goals (try with_reducible (repeat' (first | apply And.intro | intro _)))
                  all_goals (first | exact True.intro | omega | (first | rfl | (simp [fd, selI, so, so_len, sortL_len, hc]; done) | (simp [fd, selI, so, so_len, sortL_len, hc, ‹¬ v.kind = 4›]; done)))
                · refine V_regionZ Γ Δ Θ [] [0, 1, 2, 6, 7, 8, 9, 10, 11, 12, 13, 14, 15, 16, 17, 18, 41, 48, 67, 68, 69, 90, 91, 92, 98, 103, 115] (evs ?_)
                  all_goals (try with_reducible (repeat' (first | apply And.intro | intro _)))
                  all_goals (try (first | with_reducible refine wa_id ?_ | exact True.intro | exact smin_fn _ (by omega) | omega | exact pixel_z v wD (gw v x y m k) _ _ (by assumption) | exact ssort_fx _ (by assumption) | exact smax_fn _ (by assumption) | exact smin_fn _ (by assumption) | (rw [sortL_len]; omega)))
                  refine V_regionZ Γ Δ Θ [] [0, 1, 2, 6, 7, 8, 9, 10, 11, 12, 13, 14, 15, 16, 17, 18, 41, 48, 67, 68, 69, 90, 91, 92, 98, 103, 115] (evs ?_)
                  all_goals (try with_reducible (repeat' (first | apply And.intro | intro _)))
                  all_goals (try (first | with_reducible refine wa_id ?_ | exact True.intro | omega | exact pixel_z v wD (gw v x y m k) _ _ (by assumption) | exact ssort_fx _ (by assumption) | exact smax_fn _ (by assumption) | exact smin_fn _ (by assumption) | (rw [sortL_len]; omega)))
                  refine V_next [] 2 (evs ?_) ?_ ?_
                  all_goals (try with_reducible (repeat' (first | apply And.intro | intro _)))
                  all_goals (first | exact True.intro | omega | (first | rfl | (simp [fd, selI, so, so_len, sortL_len, hc]; done) | (simp [fd, selI, so, so_len, sortL_len, hc, ‹¬ v.kind = 4›]; done)))
            · refine WA_seq (x := (fcd Tryz.f33 [1, 1, 1, 1, 1, 0, 1, 0, 0, 0])) (y := (fcd Tryz.f33 [1, 1, 1, 1, 1, 0, 1, 0, 0, 1])) ?_
              refine V_regionZ Γ Δ Θ [] [0, 1, 2, 6, 7, 8, 9, 10, 11, 12, 13, 14, 15, 16, 17, 18, 41, 48, 67, 68, 69, 90, 91, 92, 98, 103, 115] (evs ?_)
              all_goals (try with_reducible (repeat' (first | apply And.intro | intro _)))
              all_goals (try (first | with_reducible refine wa_id ?_ | exact True.intro | omega | exact pixel_z v wD (gw v x y m k) _ _ (by assumption) | exact ssort_fx _ (by assumption) | exact smax_fn _ (by assumption) | exact smin_fn _ (by assumption) | (rw [sortL_len]; omega)))
              refine WA_seq (x := (fcd Tryz.f33 [1, 1, 1, 1, 1, 0, 1, 0, 0, 1, 0])) (y := (fcd Tryz.f33 [1, 1, 1, 1, 1, 0, 1, 0, 0, 1, 1])) ?_
              refine V_cond (evs ?_)
              refine ⟨fun hc => ?_, fun hc => by exact absurd hc (by omega)⟩
              refine WA_skip ?_
              refine WA_seq (x := (fcd Tryz.f33 [1, 1, 1, 1, 1, 0, 1, 0, 0, 1, 1, 0])) (y := (fcd Tryz.f33 [1, 1, 1, 1, 1, 0, 1, 0, 0, 1, 1, 1])) ?_
              refine WA_block (c := (fcd Tryz.f33 [1, 1, 1, 1, 1, 0, 1, 0, 0, 1, 1, 0, 0])) ?_
              refine WA_seq (x := (fcd Tryz.f33 [1, 1, 1, 1, 1, 0, 1, 0, 0, 1, 1, 0, 0, 0])) (y := (fcd Tryz.f33 [1, 1, 1, 1, 1, 0, 1, 0, 0, 1, 1, 0, 0, 1])) ?_
              refine V_regionZ Γ Δ Θ [] [0, 1, 2, 6, 7, 8, 9, 10, 11, 12, 13, 14, 15, 16, 17, 18, 41, 48, 67, 68, 69, 90, 91, 92, 98, 103, 115] (evs ?_)
              all_goals (try with_reducible (repeat' (first | apply And.intro | intro _)))
              all_goals (try (first | with_reducible refine wa_id ?_ | exact True.intro | omega | exact pixel_z v wD (gw v x y m k) _ _ (by assumption) | exact ssort_fx _ (by assumption) | exact smax_fn _ (by assumption) | exact smin_fn _ (by assumption) | (rw [sortL_len]; omega)))
              refine WA_seq (x := (fcd Tryz.f33 [1, 1, 1, 1, 1, 0, 1, 0, 0, 1, 1, 0, 0, 1, 0])) (y := (fcd Tryz.f33 [1, 1, 1, 1, 1, 0, 1, 0, 0, 1, 1, 0, 0, 1, 1])) ?_
              refine V_regionZ Γ Δ Θ [] [0, 1, 2, 6, 7, 8, 9, 10, 11, 12, 13, 14, 15, 16, 17, 18, 41, 48, 67, 68, 69, 90, 91, 92, 98, 103, 115] (evs ?_)
              all_goals (try with_reducible (repeat' (first | apply And.intro | intro _)))
              all_goals (try (first | with_reducible refine wa_id ?_ | exact True.intro | omega | exact pixel_z v wD (gw v x y m k) _ _ (by assumption) | exact ssort_fx _ (by assumption) | exact smax_fn _ (by assumption) | exact smin_fn _ (by assumption) | (rw [sortL_len]; omega)))
              refine WA_block (c := (fcd Tryz.f33 [1, 1, 1, 1, 1, 0, 1, 0, 0, 1, 1, 0, 0, 1, 1, 0])) ?_
              refine WA_seq (x := (fcd Tryz.f33 [1, 1, 1, 1, 1, 0, 1, 0, 0, 1, 1, 0, 0, 1, 1, 0, 0])) (y := (fcd Tryz.f33 [1, 1, 1, 1, 1, 0, 1, 0, 0, 1, 1, 0, 0, 1, 1, 0, 1])) ?_
              refine V_regionZ Γ Δ Θ [] [0, 1, 2, 6, 7, 8, 9, 10, 11, 12, 13, 14, 15, 16, 17, 18, 41, 48, 67, 68, 69, 90, 91, 92, 98, 103, 115] (evs ?_)
              all_goals (try with_reducible (repeat' (first | apply And.intro | intro _)))
              all_goals (try (first | with_reducible refine wa_id ?_ | exact True.intro | omega | exact pixel_z v wD (gw v x y m k) _ _ (by assumption) | exact ssort_fx _ (by assumption) | exact smax_fn _ (by assumption) | exact smin_fn _ (by assumption) | (rw [sortL_len]; omega)))
              refine V_cond (evs ?_)
              refine ⟨fun hc => ?_, fun hc => ?_⟩
              · refine WA_seq (x := (fcd Tryz.f33 [1, 1, 1, 1, 1, 0, 1, 0, 0, 1, 1, 0, 0, 1, 1, 0, 1, 0, 0])) (y := (fcd Tryz.f33 [1, 1, 1, 1, 1, 0, 1, 0, 0, 1, 1, 0, 0, 1, 1, 0, 1, 0, 1])) ?_
                refine V_regionZ Γ Δ Θ [] [0, 1, 2, 6, 7, 8, 9, 10, 11, 12, 13, 14, 15, 16, 17, 18, 41, 48, 67, 68, 69, 90, 91, 92, 98, 103, 115] (evs ?_)
                all_goals (try with_reducible (repeat' (first | apply And.intro | intro _)))
                all_goals (try (first | with_reducible refine wa_id ?_ | exact True.intro | omega | exact pixel_z v wD (gw v x y m k) _ _ (by assumption) | exact ssort_fx _ (by assumption) | exact smax_fn _ (by assumption) | exact smin_fn _ (by assumption) | (rw [sortL_len]; omega)))
                refine V_regionZ Γ Δ Θ [] [0, 1, 2, 6, 7, 8, 9, 10, 11, 12, 13, 14, 15, 16, 17, 18, 41, 48, 67, 68, 69, 90, 91, 92, 98, 103, 115] (evs ?_)
                have hf0 := hlf (winS v x y 0).length
                have hf1 := hlf (winS v x y 1).length
                have hf2 := hlf (winS v x y 2).length
                have hf3 := hlf (winS v x y 3).length
                (try simp (maxSteps := 10000000) (disch := omega) only [w64])
                (try simp only [hf0.1])
                (try simp only [hf1.1])
                (try simp only [hf2.1])
                (try simp only [hf3.1])
                all_goals (try with_reducible (repeat' (first | apply And.intro | intro _)))
                all_goals (try (first | with_reducible refine wa_id ?_ | exact True.intro | omega | exact pixel_z v wD (gw v x y m k) _ _ (by assumption) | exact ssort_fx _ (by assumption) | exact smax_fn _ (by assumption) | exact smin_fn _ (by assumption) | (rw [sortL_len]; omega)))
                refine V_regionZ Γ Δ Θ [] [0, 1, 2, 6, 7, 8, 9, 10, 11, 12, 13, 14, 15, 16, 17, 18, 41, 48, 67, 68, 69, 90, 91, 92, 98, 103, 115] (evs ?_)
                all_goals (try with_reducible (repeat' (first | apply And.intro | intro _)))
                all_goals (try (first | with_reducible refine wa_id ?_ | exact True.intro | omega | exact pixel_z v wD (gw v x y m k) _ _ (by assumption) | exact ssort_fx _ (by assumption) | exact smax_fn _ (by assumption) | exact smin_fn _ (by assumption) | (rw [sortL_len]; omega)))
                refine V_next [] 3 (evs ?_) ?_ ?_
                all_goals (try with_reducible (repeat' (first | apply And.intro | intro _)))
                all_goals (first | exact True.intro | omega | (first | rfl | (simp [fd, selI, so, so_len, sortL_len, hc]; done) | (simp [fd, selI, so, so_len, sortL_len, hc, ‹¬ v.kind = 4›]; done)))
              · refine WA_seq (x := (fcd Tryz.f33 [1, 1, 1, 1, 1, 0, 1, 0, 0, 1, 1, 0, 0, 1, 1, 0, 1, 1, 0])) (y := (fcd Tryz.f33 [1, 1, 1, 1, 1, 0, 1, 0, 0, 1, 1, 0, 0, 1, 1, 0, 1, 1, 1])) ?_
                refine V_regionZ Γ Δ Θ [] [0, 1, 2, 6, 7, 8, 9, 10, 11, 12, 13, 14, 15, 16, 17, 18, 41, 48, 67, 68, 69, 90, 91, 92, 98, 103, 115] (evs ?_)
                all_goals (try with_reducible (repeat' (first | apply And.intro | intro _)))
                all_goals (try (first | with_reducible refine wa_id ?_ | exact True.intro | omega | exact pixel_z v wD (gw v x y m k) _ _ (by assumption) | exact ssort_fx _ (by assumption) | exact smax_fn _ (by assumption) | exact smin_fn _ (by assumption) | (rw [sortL_len]; omega)))
                refine V_cond (evs ?_)
                refine ⟨fun hc => ?_, fun hc => ?_⟩
                · refine V_regionZ Γ Δ Θ [] [0, 1, 2, 6, 7, 8, 9, 10, 11, 12, 13, 14, 15, 16, 17, 18, 41, 48, 67, 68, 69, 90, 91, 92, 98, 103, 115] (evs ?_)
                  all_goals (try with_reducible (repeat' (first | apply And.intro | intro _)))
                  all_goals (try (first | with_reducible refine wa_id ?_ | exact True.intro | exact smax_fn _ (by omega) | omega | exact pixel_z v wD (gw v x y m k) _ _ (by assumption) | exact ssort_fx _ (by assumption) | exact smax_fn _ (by assumption) | exact smin_fn _ (by assumption) | (rw [sortL_len]; omega)))
                  refine V_regionZ Γ Δ Θ [] [0, 1, 2, 6, 7, 8, 9, 10, 11, 12, 13, 14, 15, 16, 17, 18, 41, 48, 67, 68, 69, 90, 91, 92, 98, 103, 115] (evs ?_)
                  all_goals (try with_reducible (repeat' (first | apply And.intro | intro _)))
                  all_goals (try (first | with_reducible refine wa_id ?_ | exact True.intro | omega | exact pixel_z v wD (gw v x y m k) _ _ (by assumption) | exact ssort_fx _ (by assumption) | exact smax_fn _ (by assumption) | exact smin_fn _ (by assumption) | (rw [sortL_len]; omega)))
                  refine V_next [] 3 (evs ?_) ?_ ?_
                  all_goals (try with_reducible (repeat' (first | apply And.intro | intro _)))
                  all_goals (first | exact True.intro | omega | (first | rfl | (simp [fd, selI, so, so_len, sortL_len, hc]; done) | (simp [fd, selI, so, so_len, sortL_len, hc, ‹¬ v.kind = 4›]; done)))
                · refine V_regionZ Γ Δ Θ [] [0, 1, 2, 6, 7, 8, 9, 10, 11, 12, 13, 14, 15, 16, 17, 18, 41, 48, 67, 68, 69, 90, 91, 92, 98, 103, 115] (evs ?_)
                  all_goals (try with_reducible (repeat' (first | apply And.intro | intro _)))
                  all_goals (try (first | with_reducible refine wa_id ?_ | exact True.intro | exact smin_fn _ (by omega) | omega | exact pixel_z v wD (gw v x y m k) _ _ (by assumption) | exact ssort_fx _ (by assumption) | exact smax_fn _ (by assumption) | exact smin_fn _ (by assumption) | (rw [sortL_len]; omega)))
                  refine V_regionZ Γ Δ Θ [] [0, 1, 2, 6, 7, 8, 9, 10, 11, 12, 13, 14, 15, 16, 17, 18, 41, 48, 67, 68, 69, 90, 91, 92, 98, 103, 115] (evs ?_)
                  all_goals (try with_reducible (repeat' (first | apply And.intro | intro _)))
                  all_goals (try (first | with_reducible refine wa_id ?_ | exact True.intro | omega | exact pixel_z v wD (gw v x y m k) _ _ (by assumption) | exact ssort_fx _ (by assumption) | exact smax_fn _ (by assumption) | exact smin_fn _ (by assumption) | (rw [sortL_len]; omega)))
                  refine V_next [] 3 (evs ?_) ?_ ?_
                  all_goals (try with_reducible (repeat' (first | apply And.intro | intro _)))
                  all_goals (first | exact True.intro | omega | (first | rfl | (simp [fd, selI, so, so_len, sortL_len, hc]; done) | (simp [fd, selI, so, so_len, sortL_len, hc, ‹¬ v.kind = 4›]; done)))
            · refine WA_seq (x := (fcd Tryz.f33 [1, 1, 1, 1, 1, 0, 1, 0, 0, 0])) (y := (fcd Tryz.f33 [1, 1, 1, 1, 1, 0, 1, 0, 0, 1])) ?_
              refine V_regionZ Γ Δ Θ [] [0, 1, 2, 6, 7, 8, 9, 10, 11, 12, 13, 14, 15, 16, 17, 18, 41, 48, 67, 68, 69, 90, 91, 92, 98, 103, 115] (evs ?_)
              all_goals (try with_reducible (repeat' (first | apply And.intro | intro _)))
              all_goals (try (first | with_reducible refine wa_id ?_ | exact True.intro | omega | exact pixel_z v wD (gw v x y m k) _ _ (by assumption) | exact ssort_fx _ (by assumption) | exact smax_fn _ (by assumption) | exact smin_fn _ (by assumption) | (rw [sortL_len]; omega)))
              refine WA_seq (x := (fcd Tryz.f33 [1, 1, 1, 1, 1, 0, 1, 0, 0, 1, 0])) (y := (fcd Tryz.f33 [1, 1, 1, 1, 1, 0, 1, 0, 0, 1, 1])) ?_
              refine V_cond (evs ?_)
              refine ⟨fun hc => ?_, fun hc => by exact absurd hc (by omega)⟩
              refine WA_skip ?_
              refine WA_seq (x := (fcd Tryz.f33 [1, 1, 1, 1, 1, 0, 1, 0, 0, 1, 1, 0])) (y := (fcd Tryz.f33 [1, 1, 1, 1, 1, 0, 1, 0, 0, 1, 1, 1])) ?_
              refine WA_block (c := (fcd Tryz.f33 [1, 1, 1, 1, 1, 0, 1, 0, 0, 1, 1, 0, 0])) ?_
              refine WA_seq (x := (fcd Tryz.f33 [1, 1, 1, 1, 1, 0, 1, 0, 0, 1, 1, 0, 0, 0])) (y := (fcd Tryz.f33 [1, 1, 1, 1, 1, 0, 1, 0, 0, 1, 1, 0, 0, 1])) ?_
              refine V_regionZ Γ Δ Θ [] [0, 1, 2, 6, 7, 8, 9, 10, 11, 12, 13, 14, 15, 16, 17, 18, 41, 48, 67, 68, 69, 90, 91, 92, 98, 103, 115] (evs ?_)
              all_goals (try with_reducible (repeat' (first | apply And.intro | intro _)))
              all_goals (try (first | with_reducible refine wa_id ?_ | exact True.intro | omega | exact pixel_z v wD (gw v x y m k) _ _ (by assumption) | exact ssort_fx _ (by assumption) | exact smax_fn _ (by assumption) | exact smin_fn _ (by assumption) | (rw [sortL_len]; omega)))
              refine WA_seq (x := (fcd Tryz.f33 [1, 1, 1, 1, 1, 0, 1, 0, 0, 1, 1, 0, 0, 1, 0])) (y := (fcd Tryz.f33 [1, 1, 1, 1, 1, 0, 1, 0, 0, 1, 1, 0, 0, 1, 1])) ?_
              refine V_regionZ Γ Δ Θ [] [0, 1, 2, 6, 7, 8, 9, 10, 11, 12, 13, 14, 15, 16, 17, 18, 41, 48, 67, 68, 69, 90, 91, 92, 98, 103, 115] (evs ?_)
              all_goals (try with_reducible (repeat' (first | apply And.intro | intro _)))
              all_goals (try (first | with_reducible refine wa_id ?_ | exact True.intro | omega | exact pixel_z v wD (gw v x y m k) _ _ (by assumption) | exact ssort_fx _ (by assumption) | exact smax_fn _ (by assumption) | exact smin_fn _ (by assumption) | (rw [sortL_len]; omega)))
              refine WA_block (c := (fcd Tryz.f33 [1, 1, 1, 1, 1, 0, 1, 0, 0, 1, 1, 0, 0, 1, 1, 0])) ?_
              refine WA_seq (x := (fcd Tryz.f33 [1, 1, 1, 1, 1, 0, 1, 0, 0, 1, 1, 0, 0, 1, 1, 0, 0])) (y := (fcd Tryz.f33 [1, 1, 1, 1, 1, 0, 1, 0, 0, 1, 1, 0, 0, 1, 1, 0, 1])) ?_
              refine V_regionZ Γ Δ Θ [] [0, 1, 2, 6, 7, 8, 9, 10, 11, 12, 13, 14, 15, 16, 17, 18, 41, 48, 67, 68, 69, 90, 91, 92, 98, 103, 115] (evs ?_)
              all_goals (try with_reducible (repeat' (first | apply And.intro | intro _)))
              all_goals (try (first | with_reducible refine wa_id ?_ | exact True.intro | omega | exact pixel_z v wD (gw v x y m k) _ _ (by assumption) | exact ssort_fx _ (by assumption) | exact smax_fn _ (by assumption) | exact smin_fn _ (by assumption) | (rw [sortL_len]; omega)))
              refine V_cond (evs ?_)
              refine ⟨fun hc => ?_, fun hc => ?_⟩
              · refine WA_seq (x := (fcd Tryz.f33 [1, 1, 1, 1, 1, 0, 1, 0, 0, 1, 1, 0, 0, 1, 1, 0, 1, 0, 0])) (y := (fcd Tryz.f33 [1, 1, 1, 1, 1, 0, 1, 0, 0, 1, 1, 0, 0, 1, 1, 0, 1, 0, 1])) ?_
                refine V_regionZ Γ Δ Θ [] [0, 1, 2, 6, 7, 8, 9, 10, 11, 12, 13, 14, 15, 16, 17, 18, 41, 48, 67, 68, 69, 90, 91, 92, 98, 103, 115] (evs ?_)
                all_goals (try with_reducible (repeat' (first | apply And.intro | intro _)))
                all_goals (try (first | with_reducible refine wa_id ?_ | exact True.intro | omega | exact pixel_z v wD (gw v x y m k) _ _ (by assumption) | exact ssort_fx _ (by assumption) | exact smax_fn _ (by assumption) | exact smin_fn _ (by assumption) | (rw [sortL_len]; omega)))
                refine V_regionZ Γ Δ Θ [] [0, 1, 2, 6, 7, 8, 9, 10, 11, 12, 13, 14, 15, 16, 17, 18, 41, 48, 67, 68, 69, 90, 91, 92, 98, 103, 115] (evs ?_)
                have hf0 := hlf (winS v x y 0).length
                have hf1 := hlf (winS v x y 1).length
                have hf2 := hlf (winS v x y 2).length
                have hf3 := hlf (winS v x y 3).length
                (try simp (maxSteps := 10000000) (disch := omega) only [w64])
                (try simp only [hf0.1])
                (try simp only [hf1.1])
                (try simp only [hf2.1])
                (try simp only [hf3.1])
                all_goals (try with_reducible (repeat' (first | apply And.intro | intro _)))
                all_goals (try (first | with_reducible refine wa_id ?_ | exact True.intro | omega | exact pixel_z v wD (gw v x y m k) _ _ (by assumption) | exact ssort_fx _ (by assumption) | exact smax_fn _ (by assumption) | exact smin_fn _ (by assumption) | (rw [sortL_len]; omega)))
                refine V_regionZ Γ Δ Θ [] [0, 1, 2, 6, 7, 8, 9, 10, 11, 12, 13, 14, 15, 16, 17, 18, 41, 48, 67, 68, 69, 90, 91, 92, 98, 103, 115] (evs ?_)
                all_goals (try with_reducible (repeat' (first | apply And.intro | intro _)))
                all_goals (try (first | with_reducible refine wa_id ?_ | exact True.intro | omega | exact pixel_z v wD (gw v x y m k) _ _ (by assumption) | exact ssort_fx _ (by assumption) | exact smax_fn _ (by assumption) | exact smin_fn _ (by assumption) | (rw [sortL_len]; omega)))
                refine V_next [] 4 (evs ?_) ?_ ?_
                all_goals (try with_reducible (repeat' (first | apply And.intro | intro _)))
                all_goals (first | exact True.intro | omega | (first | rfl | (simp [fd, selI, so, so_len, sortL_len, hc]; done) | (simp [fd, selI, so, so_len, sortL_len, hc, ‹¬ v.kind = 4›]; done)))
              · refine WA_seq (x := (fcd Tryz.f33 [1, 1, 1, 1, 1, 0, 1, 0, 0, 1, 1, 0, 0, 1, 1, 0, 1, 1, 0])) (y := (fcd Tryz.f33 [1, 1, 1, 1, 1, 0, 1, 0, 0, 1, 1, 0, 0, 1, 1, 0, 1, 1, 1])) ?_
                refine V_regionZ Γ Δ Θ [] [0, 1, 2, 6, 7, 8, 9, 10, 11, 12, 13, 14, 15, 16, 17, 18, 41, 48, 67, 68, 69, 90, 91, 92, 98, 103, 115] (evs ?_)
                all_goals (try with_reducible (repeat' (first | apply And.intro | intro _)))
                all_goals (try (first | with_reducible refine wa_id ?_ | exact True.intro | omega | exact pixel_z v wD (gw v x y m k) _ _ (by assumption) | exact ssort_fx _ (by assumption) | exact smax_fn _ (by assumption) | exact smin_fn _ (by assumption) | (rw [sortL_len]; omega)))
                refine V_cond (evs ?_)
                refine ⟨fun hc => ?_, fun hc => ?_⟩
                · refine V_regionZ Γ Δ Θ [] [0, 1, 2, 6, 7, 8, 9, 10, 11, 12, 13, 14, 15, 16, 17, 18, 41, 48, 67, 68, 69, 90, 91, 92, 98, 103, 115] (evs ?_)
                  all_goals (try with_reducible (repeat' (first | apply And.intro | intro _)))
                  all_goals (try (first | with_reducible refine wa_id ?_ | exact True.intro | exact smax_fn _ (by omega) | omega | exact pixel_z v wD (gw v x y m k) _ _ (by assumption) | exact ssort_fx _ (by assumption) | exact smax_fn _ (by assumption) | exact smin_fn _ (by assumption) | (rw [sortL_len]; omega)))
                  refine V_regionZ Γ Δ Θ [] [0, 1, 2, 6, 7, 8, 9, 10, 11, 12, 13, 14, 15, 16, 17, 18, 41, 48, 67, 68, 69, 90, 91, 92, 98, 103, 115] (evs ?_)
                  all_goals (try with_reducible (repeat' (first | apply And.intro | intro _)))
                  all_goals (try (first | with_reducible refine wa_id ?_ | exact True.intro | omega | exact pixel_z v wD (gw v x y m k) _ _ (by assumption) | exact ssort_fx _ (by assumption) | exact smax_fn _ (by assumption) | exact smin_fn _ (by assumption) | (rw [sortL_len]; omega)))
                  refine V_next [] 4 (evs ?_) ?_ ?_
                  all_goals (try with_reducible (repeat' (first | apply And.intro | intro _)))
                  all_goals (first | exact True.intro | omega | (first | rfl | (simp [fd, selI, so, so_len, sortL_len, hc]; done) | (simp [fd, selI, so, so_len, sortL_len, hc, ‹¬ v.kind = 4›]; done)))
                · refine V_regionZ Γ Δ Θ [] [0, 1, 2, 6, 7, 8, 9, 10, 11, 12, 13, 14, 15, 16, 17, 18, 41, 48, 67, 68, 69, 90, 91, 92, 98, 103, 115] (evs ?_)
                  all_goals (try with_reducible (repeat' (first | apply And.intro | intro _)))
                  all_goals (try (first | with_reducible refine wa_id ?_ | exact True.intro | exact smin_fn _ (by omega) | omega | exact pixel_z v wD (gw v x y m k) _ _ (by assumption) | exact ssort_fx _ (by assumption) | exact smax_fn _ (by assumption) | exact smin_fn _ (by assumption) | (rw [sortL_len]; omega)))
                  refine V_regionZ Γ Δ Θ [] [0, 1, 2, 6, 7, 8, 9, 10, 11, 12, 13, 14, 15, 16, 17, 18, 41, 48, 67, 68, 69, 90, 91, 92, 98, 103, 115] (evs ?_)
                  all_goals (try with_reducible (repeat' (first | apply And.intro | intro _)))
                  all_goals (try (first | with_reducible refine wa_id ?_ | exact True.intro | omega | exact pixel_z v wD (gw v x y m k) _ _ (by assumption) | exact ssort_fx _ (by assumption) | exact smax_fn _ (by assumption) | exact smin_fn _ (by assumption) | (rw [sortL_len]; omega)))
                  refine V_next [] 4 (evs ?_) ?_ ?_
                  all_goals (try with_reducible (repeat' (first | apply And.intro | intro _)))
                  all_goals (first | exact True.intro | omega | (first | rfl | (simp [fd, selI, so, so_len, sortL_len, hc]; done) | (simp [fd, selI, so, so_len, sortL_len, hc, ‹¬ v.kind = 4›]; done)))
            · refine WA_seq (x := (fcd Tryz.f33 [1, 1, 1, 1, 1, 0, 1, 0, 0, 0])) (y := (fcd Tryz.f33 [1, 1, 1, 1, 1, 0, 1, 0, 0, 1])) ?_
              refine V_regionZ Γ Δ Θ [] [0, 1, 2, 6, 7, 8, 9, 10, 11, 12, 13, 14, 15, 16, 17, 18, 41, 48, 67, 68, 69, 90, 91, 92, 98, 103, 115] (evs ?_)
              all_goals (try with_reducible (repeat' (first | apply And.intro | intro _)))
              all_goals (try (first | with_reducible refine wa_id ?_ | exact True.intro | omega | exact pixel_z v wD (gw v x y m k) _ _ (by assumption) | exact ssort_fx _ (by assumption) | exact smax_fn _ (by assumption) | exact smin_fn _ (by assumption) | (rw [sortL_len]; omega)))
              refine WA_seq (x := (fcd Tryz.f33 [1, 1, 1, 1, 1, 0, 1, 0, 0, 1, 0])) (y := (fcd Tryz.f33 [1, 1, 1, 1, 1, 0, 1, 0, 0, 1, 1])) ?_
              refine V_cond (evs ?_)
              refine ⟨fun hc => by exact absurd hc (by omega), fun hc => ?_⟩
              refine V_exit (evs ?_)
              refine WA_seq (x := (fcd Tryz.f33 [1, 1, 1, 1, 1, 1, 0])) (y := (fcd Tryz.f33 [1, 1, 1, 1, 1, 1, 1])) ?_
              refine V_regionZ Γ Δ Θ [] [0, 1, 2, 6, 7, 8, 9, 10, 11, 12, 13, 14, 15, 16, 17, 18, 41, 48, 67, 68, 69, 90, 91, 92, 98, 103, 115] (evs ?_)
              all_goals (try with_reducible (repeat' (first | apply And.intro | intro _)))
              all_goals (try (first | with_reducible refine wa_id ?_ | exact True.intro | omega | exact pixel_z v wD (gw v x y m k) _ _ (by assumption) | exact ssort_fx _ (by assumption) | exact smax_fn _ (by assumption) | exact smin_fn _ (by assumption) | (rw [sortL_len]; omega)))
              refine WA_ret (V_retZ [(31001, some 20000), (31002, some 20001), (31003, some 20002), (31004, some 20003)] (gs v x y 4) (evs ?_) ?_)
              all_goals (first | trivial | rfl | exact ⟨rfl, rfl, rfl, rfl⟩)

end Go.S16

