import Derived.Test.YtdillkdhpalgcaaGreatC2
set_option linter.unusedSimpArgs false
set_option linter.unusedVariables false
set_option linter.unusedSimpArgs false
set_option linter.unusedVariables false
namespace Go.S16
open Go.RowKit Go.Proofs Go.Eng Go.Rect
set_option maxHeartbeats 4000000 in
set_option maxRecDepth 100000 in
theorem filtered_z (v : Vw) (wD : D) (g : Gs) (x y : Int) (hv : RkH v x y) : Eng.FnZ Tryz.prog 15 (zRk 3 64 v wD g x y (fun _ => True) (rankF v x y)) := by
  have hk := hv.1
  refine Eng.FnZ.by (fn := Tryz.f15) 72 [.cell 6 49] Tryz.func15 rfl Tryz.ntmps15 rfl (by simp [zRk]) fun w0 X G0 u => ?_
  refine WA_seq (x := (fcd Tryz.f15 [0])) (y := (fcd Tryz.f15 [1])) ?_
  refine V_regionZ Γ Δ Θ [] [0, 1, 2, 6, 7, 11, 12, 20, 26, 34, 40, 62] (evs ?_)
  all_goals (try with_reducible (repeat' (first | apply And.intro | intro _)))
  all_goals (try (first | with_reducible refine wa_id ?_ | exact True.intro | omega | exact ranked_z v wD g _ _ (by assumption)))
  refine WA_seq (x := (fcd Tryz.f15 [1, 0])) (y := (fcd Tryz.f15 [1, 1])) ?_
  refine WA_seq (x := (fcd Tryz.f15 [1, 0, 0])) (y := (fcd Tryz.f15 [1, 0, 1])) ?_
  refine V_regionZ Γ Δ Θ [] [0, 1, 2, 6, 7, 11, 12, 20, 26, 34, 40, 62] (evs ?_)
  all_goals (try with_reducible (repeat' (first | apply And.intro | intro _)))
  all_goals (try (first | with_reducible refine wa_id ?_ | exact True.intro | omega | exact ranked_z v wD g _ _ (by assumption)))
  refine WA_block (c := (fcd Tryz.f15 [1, 0, 1, 0])) ?_
  refine WA_seq (x := (fcd Tryz.f15 [1, 0, 1, 0, 0])) (y := (fcd Tryz.f15 [1, 0, 1, 0, 1])) ?_
  refine WA_seq (x := (fcd Tryz.f15 [1, 0, 1, 0, 0, 0])) (y := (fcd Tryz.f15 [1, 0, 1, 0, 0, 1])) ?_
  refine V_regionZ Γ Δ Θ [] [0, 1, 2, 6, 7, 11, 12, 20, 26, 34, 40, 62] (evs ?_)
  all_goals (try with_reducible (repeat' (first | apply And.intro | intro _)))
  all_goals (try (first | with_reducible refine wa_id ?_ | exact True.intro | omega | exact ranked_z v wD g _ _ (by assumption)))
  refine V_cond (evs ?_)
  refine ⟨fun hc => by exact absurd hc (by omega), fun hc => ?_⟩
  refine V_regionZ Γ Δ Θ [] [0, 1, 2, 6, 7, 11, 12, 20, 26, 34, 40, 62] (evs ?_)
  all_goals (try with_reducible (repeat' (first | apply And.intro | intro _)))
  all_goals (try (first | with_reducible refine wa_id ?_ | exact True.intro | omega | exact ranked_z v wD g _ _ (by assumption)))
  refine V_cond (evs ?_)
  refine ⟨fun hc => by exact absurd hc (by omega), fun hc => ?_⟩
  refine WA_seq (x := (fcd Tryz.f15 [1, 0, 1, 0, 1, 1, 0])) (y := (fcd Tryz.f15 [1, 0, 1, 0, 1, 1, 1])) ?_
  refine V_regionZ Γ Δ Θ [] [0, 1, 2, 6, 7, 11, 12, 20, 26, 34, 40, 62] (evs ?_)
  all_goals (try with_reducible (repeat' (first | apply And.intro | intro _)))
  all_goals (try (first | with_reducible refine wa_id ?_ | exact True.intro | omega | exact ranked_z v wD g _ _ (by assumption)))
  refine V_cond (evs ?_)
  refine ⟨fun hc => by exact absurd hc (by omega), fun hc => ?_⟩
  refine WA_seq (x := (fcd Tryz.f15 [1, 0, 1, 0, 1, 1, 1, 1, 0])) (y := (fcd Tryz.f15 [1, 0, 1, 0, 1, 1, 1, 1, 1])) ?_
  refine WA_seq (x := (fcd Tryz.f15 [1, 0, 1, 0, 1, 1, 1, 1, 0, 0])) (y := (fcd Tryz.f15 [1, 0, 1, 0, 1, 1, 1, 1, 0, 1])) ?_
  refine V_regionZ Γ Δ Θ [] [0, 1, 2, 6, 7, 11, 12, 20, 26, 34, 40, 62] (evs ?_)
  all_goals (try with_reducible (repeat' (first | apply And.intro | intro _)))
  all_goals (try (first | with_reducible refine wa_id ?_ | exact True.intro | omega | exact ranked_z v wD g _ _ (by assumption)))
  refine V_cond (evs ?_)
  refine ⟨fun hc => ?_, fun hc => ?_⟩
  · refine WA_skip ?_
    refine V_cond (evs ?_)
    refine ⟨fun hc => ?_, fun hc => by exact absurd hc (by omega)⟩
    refine WA_seq (x := (fcd Tryz.f15 [1, 0, 1, 0, 1, 1, 1, 1, 1, 0, 0])) (y := (fcd Tryz.f15 [1, 0, 1, 0, 1, 1, 1, 1, 1, 0, 1])) ?_
    refine V_regionZ Γ Δ Θ [] [0, 1, 2, 6, 7, 11, 12, 20, 26, 34, 40, 62] (evs ?_)
    all_goals (try with_reducible (repeat' (first | apply And.intro | intro _)))
    all_goals (try (first | with_reducible refine wa_id ?_ | exact True.intro | omega | exact ranked_z v wD g _ _ (by assumption)))
    rename_i g2
    refine WA_ret (V_retZ [(31001, some 13300), (31002, some 13301), (31003, some 13302), (31004, some 13303)] g2 (evs ?_) ?_)
    all_goals (first | trivial | rfl | exact ⟨rfl, rfl, rfl, rfl⟩)
  · refine WA_seq (x := (fcd Tryz.f15 [1, 0, 1, 0, 1, 1, 1, 1, 0, 1, 1, 0])) (y := (fcd Tryz.f15 [1, 0, 1, 0, 1, 1, 1, 1, 0, 1, 1, 1])) ?_
    refine V_regionZ Γ Δ Θ [] [0, 1, 2, 6, 7, 11, 12, 20, 26, 34, 40, 62] (evs ?_)
    all_goals (try with_reducible (repeat' (first | apply And.intro | intro _)))
    all_goals (try (first | with_reducible refine wa_id ?_ | exact True.intro | omega | exact ranked_z v wD g _ _ (by assumption)))
    refine V_cond (evs ?_)
    refine ⟨fun hc => ?_, fun hc => ?_⟩
    · refine WA_skip ?_
      refine V_cond (evs ?_)
      refine ⟨fun hc => ?_, fun hc => by exact absurd hc (by omega)⟩
      refine WA_seq (x := (fcd Tryz.f15 [1, 0, 1, 0, 1, 1, 1, 1, 1, 0, 0])) (y := (fcd Tryz.f15 [1, 0, 1, 0, 1, 1, 1, 1, 1, 0, 1])) ?_
      refine V_regionZ Γ Δ Θ [] [0, 1, 2, 6, 7, 11, 12, 20, 26, 34, 40, 62] (evs ?_)
      all_goals (try with_reducible (repeat' (first | apply And.intro | intro _)))
      all_goals (try (first | with_reducible refine wa_id ?_ | exact True.intro | omega | exact ranked_z v wD g _ _ (by assumption)))
      rename_i g2
      refine WA_ret (V_retZ [(31001, some 13300), (31002, some 13301), (31003, some 13302), (31004, some 13303)] g2 (evs ?_) ?_)
      all_goals (first | trivial | rfl | exact ⟨rfl, rfl, rfl, rfl⟩)
    · refine V_regionZ Γ Δ Θ [] [0, 1, 2, 6, 7, 11, 12, 20, 26, 34, 40, 62] (evs ?_)
      all_goals (try with_reducible (repeat' (first | apply And.intro | intro _)))
      all_goals (try (first | with_reducible refine wa_id ?_ | exact True.intro | omega | exact ranked_z v wD g _ _ (by assumption)))
      refine V_cond (evs ?_)
      refine ⟨fun hc => ?_, fun hc => by exact absurd hc (by omega)⟩
      refine WA_seq (x := (fcd Tryz.f15 [1, 0, 1, 0, 1, 1, 1, 1, 1, 0, 0])) (y := (fcd Tryz.f15 [1, 0, 1, 0, 1, 1, 1, 1, 1, 0, 1])) ?_
      refine V_regionZ Γ Δ Θ [] [0, 1, 2, 6, 7, 11, 12, 20, 26, 34, 40, 62] (evs ?_)
      all_goals (try with_reducible (repeat' (first | apply And.intro | intro _)))
      all_goals (try (first | with_reducible refine wa_id ?_ | exact True.intro | omega | exact ranked_z v wD g _ _ (by assumption)))
      rename_i g2
      refine WA_ret (V_retZ [(31001, some 13300), (31002, some 13301), (31003, some 13302), (31004, some 13303)] g2 (evs ?_) ?_)
      all_goals (first | trivial | rfl | exact ⟨rfl, rfl, rfl, rfl⟩)

end Go.S16

