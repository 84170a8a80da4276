import Derived.Test.YtfpimhkkknfmcaaW1
set_option linter.unusedSimpArgs false
set_option linter.unusedVariables false
namespace Go.Rect
open Go.RowKit Go.Proofs Go.Eng
/-- imageeditor/rect.between -/
theorem between_fn (x0 y0 x1 y1 : Int) : Eng.Fn Try.prog 41 [.i x0, .i y0, .i x1, .i y1] (.dat (rcD (betweenR x0 y0 x1 y1))) := by
  refine Eng.Fn.by (fn := Try.f41) 35 [.cell 8 23] Try.func41 rfl Try.ntmps41 rfl (by simp) fun w0 => ?_
  refine WA_seq (x := (fcd Try.f41 [0])) (y := (fcd Try.f41 [1])) ?_
  refine V_regionX Γ Δ [] [0, 1, 2, 3, 8, 24] (evs ?_)
  all_goals (try with_reducible (repeat' (first | apply And.intro | intro _)))
  all_goals (try (first | with_reducible refine wa_id ?_ | exact True.intro | omega))
  refine WA_seq (x := (fcd Try.f41 [1, 0])) (y := (fcd Try.f41 [1, 1])) ?_
  refine V_regionX Γ Δ [] [0, 1, 2, 3, 8, 24] (evs ?_)
  all_goals (try with_reducible (repeat' (first | apply And.intro | intro _)))
  all_goals (try (first | with_reducible refine wa_id ?_ | exact True.intro | omega))
  refine WA_seq (x := (fcd Try.f41 [1, 1, 0])) (y := (fcd Try.f41 [1, 1, 1])) ?_
  refine V_regionX Γ Δ [] [0, 1, 2, 3, 8, 24] (evs ?_)
  all_goals (try with_reducible (repeat' (first | apply And.intro | intro _)))
  all_goals (try (first | with_reducible refine wa_id ?_ | exact True.intro | omega))
  refine WA_seq (x := (fcd Try.f41 [1, 1, 1, 0])) (y := (fcd Try.f41 [1, 1, 1, 1])) ?_
  refine WA_seq (x := (fcd Try.f41 [1, 1, 1, 0, 0])) (y := (fcd Try.f41 [1, 1, 1, 0, 1])) ?_
  refine V_regionX Γ Δ [] [0, 1, 2, 3, 8, 24] (evs ?_)
  all_goals (try with_reducible (repeat' (first | apply And.intro | intro _)))
  all_goals (try (first | with_reducible refine wa_id ?_ | exact True.intro | omega))
  refine V_cond (evs ?_)
  refine ⟨fun hc => ?_, fun hc => ?_⟩
  · refine WA_seq (x := (fcd Try.f41 [1, 1, 1, 0, 1, 0, 0])) (y := (fcd Try.f41 [1, 1, 1, 0, 1, 0, 1])) ?_
    refine V_regionX Γ Δ [] [0, 1, 2, 3, 8, 24] (evs ?_)
    all_goals (try with_reducible (repeat' (first | apply And.intro | intro _)))
    all_goals (try (first | with_reducible refine wa_id ?_ | exact True.intro | omega))
    refine V_ret (evs ?_)
    first | exact fe (r := zR) (fin_b1 hc) | exact fe (fin_b2 hc)
  · refine WA_skip ?_
    refine WA_seq (x := (fcd Try.f41 [1, 1, 1, 1, 0])) (y := (fcd Try.f41 [1, 1, 1, 1, 1])) ?_
    refine V_regionX Γ Δ [] [0, 1, 2, 3, 8, 24] (evs ?_)
    all_goals (try with_reducible (repeat' (first | apply And.intro | intro _)))
    all_goals (try (first | with_reducible refine wa_id ?_ | exact True.intro | omega))
    refine V_ret (evs ?_)
    first | exact fe (r := zR) (fin_b1 hc) | exact fe (fin_b2 hc)

/-- imageeditor/imageeditorref02.of -/
theorem of_fn (x0 x1 y0 y1 : Int) (h1 : -4611686018427387904 ≤ x0) (h2 : x1 ≤ 4611686018427387900) (h3 : -4611686018427387904 ≤ y0) (h4 : y1 ≤ 4611686018427387900) : Eng.Fn Try.prog 42 [.i x0, .i x1, .i y0, .i y1] (.dat (rcD (ofR x0 x1 y0 y1))) := by
  refine Eng.Fn.by (fn := Try.f42) 29 [.cell 8 23] Try.func42 rfl Try.ntmps42 rfl (by simp) fun w0 => ?_
  refine WA_seq (x := (fcd Try.f42 [0])) (y := (fcd Try.f42 [1])) ?_
  refine V_regionX Γ Δ [] [0, 1, 2, 3, 8, 16] (evs ?_)
  all_goals (try with_reducible (repeat' (first | apply And.intro | intro _)))
  all_goals (try (first | with_reducible refine wa_id ?_ | exact True.intro | omega))
  refine WA_seq (x := (fcd Try.f42 [1, 0])) (y := (fcd Try.f42 [1, 1])) ?_
  refine WA_seq (x := (fcd Try.f42 [1, 0, 0])) (y := (fcd Try.f42 [1, 0, 1])) ?_
  refine V_regionX Γ Δ [] [0, 1, 2, 3, 8, 16] (evs ?_)
  all_goals (try with_reducible (repeat' (first | apply And.intro | intro _)))
  all_goals (try (first | with_reducible refine wa_id ?_ | exact True.intro | omega))
  refine V_cond (evs ?_)
  refine ⟨fun hc => ?_, fun hc => ?_⟩
  · refine WA_seq (x := (fcd Try.f42 [1, 0, 1, 0, 0])) (y := (fcd Try.f42 [1, 0, 1, 0, 1])) ?_
    refine V_regionX Γ Δ [] [0, 1, 2, 3, 8, 16] (evs ?_)
    all_goals (try with_reducible (repeat' (first | apply And.intro | intro _)))
    all_goals (try (first | with_reducible refine wa_id ?_ | exact True.intro | omega))
    refine V_ret (evs ?_)
    first | exact fe (r := zR) (fin_o1 hc) | exact fe (fin_o2 h1 h2 h3 h4 hc)
  · refine WA_skip ?_
    refine WA_seq (x := (fcd Try.f42 [1, 1, 0])) (y := (fcd Try.f42 [1, 1, 1])) ?_
    refine V_regionX Γ Δ [] [0, 1, 2, 3, 8, 16] (evs ?_)
    all_goals (try with_reducible (repeat' (first | apply And.intro | intro _)))
    all_goals (try (first | with_reducible refine wa_id ?_ | exact True.intro | omega))
    refine V_ret (evs ?_)
    first | exact fe (r := zR) (fin_o1 hc) | exact fe (fin_o2 h1 h2 h3 h4 hc)

/-- imageeditor/imageeditorref02.world -/
theorem world_fn (x0 x1 y0 y1 : Int) : Eng.Fn Try.prog 43 [.i x0, .i x1, .i y0, .i y1] (.dat (rcD (worldR x0 x1 y0 y1))) := by
  refine Eng.Fn.by (fn := Try.f43) 18 [.cell 8 23] Try.func43 rfl Try.ntmps43 rfl (by simp) fun w0 => ?_
  refine WA_seq (x := (fcd Try.f43 [0])) (y := (fcd Try.f43 [1])) ?_
  refine V_regionX Γ Δ [] [0, 1, 2, 3, 8] (evs ?_)
  all_goals (try with_reducible (repeat' (first | apply And.intro | intro _)))
  all_goals (try (first | with_reducible refine wa_id ?_ | exact True.intro | omega))
  refine WA_seq (x := (fcd Try.f43 [1, 0])) (y := (fcd Try.f43 [1, 1])) ?_
  refine V_regionX Γ Δ [] [0, 1, 2, 3, 8] (evs ?_)
  all_goals (try with_reducible (repeat' (first | apply And.intro | intro _)))
  all_goals (try (first | with_reducible refine wa_id ?_ | exact True.intro | exact of_fn _ _ _ _ (by omega) (by omega) (by omega) (by omega) | omega))
  refine V_ret (evs ?_)
  exact fe rfl

/-- imageeditor/imageeditorref02.limit -/
theorem limit_fn (n : Int) : Eng.Fn Try.prog 44 [.i n] (.dat (.i (lim3 n))) := by
  refine Eng.Fn.by (fn := Try.f44) 6 [.tmp 2] Try.func44 rfl Try.ntmps44 rfl (by simp) fun w0 => ?_
  refine WA_seq (x := (fcd Try.f44 [0])) (y := (fcd Try.f44 [1])) ?_
  refine V_regionX Γ Δ [] [0, 2] (evs ?_)
  all_goals (try with_reducible (repeat' (first | apply And.intro | intro _)))
  all_goals (try (first | with_reducible refine wa_id ?_ | exact True.intro | omega))
  refine WA_seq (x := (fcd Try.f44 [1, 0])) (y := (fcd Try.f44 [1, 1])) ?_
  refine V_regionX Γ Δ [] [0, 2] (evs ?_)
  all_goals (try with_reducible (repeat' (first | apply And.intro | intro _)))
  all_goals (try (first | with_reducible refine wa_id ?_ | exact True.intro | omega))
  refine V_ret (evs ?_)
  rfl

/-- imageeditor/rect.tile -/
theorem tile_fn (n : Int) (h1 : -1048576 ≤ n) (h2 : n ≤ 4194304) : Eng.Fn Try.prog 45 [.i n] (.dat (.i (tileI n))) := by
  refine Eng.Fn.by (fn := Try.f45) 7 [.tmp 2] Try.func45 rfl Try.ntmps45 rfl (by simp) fun w0 => ?_
  refine WA_seq (x := (fcd Try.f45 [0])) (y := (fcd Try.f45 [1])) ?_
  refine V_regionX Γ Δ [] [0, 2] (evs ?_)
  all_goals (try with_reducible (repeat' (first | apply And.intro | intro _)))
  all_goals (try (first | with_reducible refine wa_id ?_ | exact True.intro | omega))
  refine WA_seq (x := (fcd Try.f45 [1, 0])) (y := (fcd Try.f45 [1, 1])) ?_
  refine V_regionX Γ Δ [] [0, 2] (evs ?_)
  all_goals (try with_reducible (repeat' (first | apply And.intro | intro _)))
  all_goals (try (first | with_reducible refine wa_id ?_ | exact True.intro | omega))
  refine V_ret (evs ?_)
  exact fin_t h1 h2

/-- imageeditor/imageeditorref02.tile -/
theorem rtile_fn (n : Int) (h1 : -1048576 ≤ n) (h2 : n ≤ 4194304) : Eng.Fn Try.prog 46 [.i n] (.dat (.i (tileI n))) := by
  refine Eng.Fn.by (fn := Try.f46) 7 [.tmp 2] Try.func46 rfl Try.ntmps46 rfl (by simp) fun w0 => ?_
  refine WA_seq (x := (fcd Try.f46 [0])) (y := (fcd Try.f46 [1])) ?_
  refine V_regionX Γ Δ [] [0, 2] (evs ?_)
  all_goals (try with_reducible (repeat' (first | apply And.intro | intro _)))
  all_goals (try (first | with_reducible refine wa_id ?_ | exact True.intro | omega))
  refine WA_seq (x := (fcd Try.f46 [1, 0])) (y := (fcd Try.f46 [1, 1])) ?_
  refine V_regionX Γ Δ [] [0, 2] (evs ?_)
  all_goals (try with_reducible (repeat' (first | apply And.intro | intro _)))
  all_goals (try (first | with_reducible refine wa_id ?_ | exact True.intro | omega))
  refine V_ret (evs ?_)
  exact fin_t h1 h2

/-- imageeditor/rect.Meet -/
theorem meet_fn (a b : Rc) : Eng.Fn Try.prog 23 [rcD a, rcD b] (.dat (rcD (meetR a b))) := by
  refine Eng.Fn.by (fn := Try.f23) 45 [.cell 4 23] Try.func23 rfl Try.ntmps23 rfl (by simp) fun w0 => ?_
  refine WA_seq (x := (fcd Try.f23 [0])) (y := (fcd Try.f23 [1])) ?_
  refine V_regionX Γ Δ [] [0, 1, 2, 3, 4, 10] (evs ?_)
  all_goals (try with_reducible (repeat' (first | apply And.intro | intro _)))
  all_goals (try (first | with_reducible refine wa_id ?_ | exact True.intro | omega))
  refine WA_seq (x := (fcd Try.f23 [1, 0])) (y := (fcd Try.f23 [1, 1])) ?_
  refine WA_seq (x := (fcd Try.f23 [1, 0, 0])) (y := (fcd Try.f23 [1, 0, 1])) ?_
  refine V_regionX Γ Δ [] [0, 1, 2, 3, 4, 10] (evs ?_)
  all_goals (try with_reducible (repeat' (first | apply And.intro | intro _)))
  all_goals (try (first | with_reducible refine wa_id ?_ | exact True.intro | exact empty_fn _ | omega))
  refine V_cond (evs ?_)
  refine ⟨fun hc => ?_, fun hc => ?_⟩
  · refine WA_seq (x := (fcd Try.f23 [1, 0, 1, 0, 0])) (y := (fcd Try.f23 [1, 0, 1, 0, 1])) ?_
    refine V_regionX Γ Δ [] [0, 1, 2, 3, 4, 10] (evs ?_)
    all_goals (try with_reducible (repeat' (first | apply And.intro | intro _)))
    all_goals (try (first | with_reducible refine wa_id ?_ | exact True.intro | omega))
    refine V_ret (evs ?_)
    first | exact fe (r := zR) (fin_m1 hc) | exact fe (fin_m2 hc)
  · refine WA_skip ?_
    refine WA_seq (x := (fcd Try.f23 [1, 1, 0])) (y := (fcd Try.f23 [1, 1, 1])) ?_
    refine V_regionX Γ Δ [] [0, 1, 2, 3, 4, 10] (evs ?_)
    all_goals (try with_reducible (repeat' (first | apply And.intro | intro _)))
    all_goals (try (first | with_reducible refine wa_id ?_ | exact True.intro | exact between_fn _ _ _ _ | omega))
    refine V_ret (evs ?_)
    first | exact fe (r := zR) (fin_m1 hc) | exact fe (fin_m2 hc)

/-- imageeditor/imageeditorref02.Meet -/
theorem rmeet_fn (a b : Rc) : Eng.Fn Try.prog 24 [rcD a, rcD b] (.dat (rcD (meetR a b))) := by
  refine Eng.Fn.by (fn := Try.f24) 53 [.cell 4 23] Try.func24 rfl Try.ntmps24 rfl (by simp) fun w0 => ?_
  refine WA_seq (x := (fcd Try.f24 [0])) (y := (fcd Try.f24 [1])) ?_
  refine V_regionX Γ Δ [] [0, 1, 2, 3, 4, 5, 6, 7, 8, 9, 10, 11, 12, 18] (evs ?_)
  all_goals (try with_reducible (repeat' (first | apply And.intro | intro _)))
  all_goals (try (first | with_reducible refine wa_id ?_ | exact True.intro | omega | (have := sp_bd a 0; have := sp_bd a 1; have := sp_bd b 0; have := sp_bd b 1; exact of_fn _ _ _ _ (by omega) (by omega) (by omega) (by omega))))
  refine WA_seq (x := (fcd Try.f24 [1, 0])) (y := (fcd Try.f24 [1, 1])) ?_
  refine WA_seq (x := (fcd Try.f24 [1, 0, 0])) (y := (fcd Try.f24 [1, 0, 1])) ?_
  refine V_regionX Γ Δ [] [0, 1, 2, 3, 4, 5, 6, 7, 8, 9, 10, 11, 12, 18] (evs ?_)
  all_goals (try with_reducible (repeat' (first | apply And.intro | intro _)))
  all_goals (try (first | with_reducible refine wa_id ?_ | exact True.intro | exact rempty_fn _ | omega | (have := sp_bd a 0; have := sp_bd a 1; have := sp_bd b 0; have := sp_bd b 1; exact of_fn _ _ _ _ (by omega) (by omega) (by omega) (by omega))))
  refine V_cond (evs ?_)
  refine ⟨fun hc => ?_, fun hc => ?_⟩
  · refine WA_seq (x := (fcd Try.f24 [1, 0, 1, 0, 0])) (y := (fcd Try.f24 [1, 0, 1, 0, 1])) ?_
    refine V_regionX Γ Δ [] [0, 1, 2, 3, 4, 5, 6, 7, 8, 9, 10, 11, 12, 18] (evs ?_)
    all_goals (try with_reducible (repeat' (first | apply And.intro | intro _)))
    all_goals (try (first | with_reducible refine wa_id ?_ | exact True.intro | omega | (have := sp_bd a 0; have := sp_bd a 1; have := sp_bd b 0; have := sp_bd b 1; exact of_fn _ _ _ _ (by omega) (by omega) (by omega) (by omega))))
    refine V_ret (evs ?_)
    first | exact fe (r := zR) (fin_m1 hc) | exact fe (fin_m3 hc)
  · refine WA_skip ?_
    refine WA_seq (x := (fcd Try.f24 [1, 1, 0])) (y := (fcd Try.f24 [1, 1, 1])) ?_
    refine V_regionX Γ Δ [] [0, 1, 2, 3, 4, 5, 6, 7, 8, 9, 10, 11, 12, 18] (evs ?_)
    all_goals (try with_reducible (repeat' (first | apply And.intro | intro _)))
    all_goals (try (first | with_reducible refine wa_id ?_ | exact True.intro | exact rspan_fn _ _ | omega | (have := sp_bd a 0; have := sp_bd a 1; have := sp_bd b 0; have := sp_bd b 1; exact of_fn _ _ _ _ (by omega) (by omega) (by omega) (by omega))))
    refine WA_seq (x := (fcd Try.f24 [1, 1, 1, 0])) (y := (fcd Try.f24 [1, 1, 1, 1])) ?_
    refine V_regionX Γ Δ [] [0, 1, 2, 3, 4, 5, 6, 7, 8, 9, 10, 11, 12, 18] (evs ?_)
    all_goals (try with_reducible (repeat' (first | apply And.intro | intro _)))
    all_goals (try (first | with_reducible refine wa_id ?_ | exact True.intro | exact rspan_fn _ _ | omega | (have := sp_bd a 0; have := sp_bd a 1; have := sp_bd b 0; have := sp_bd b 1; exact of_fn _ _ _ _ (by omega) (by omega) (by omega) (by omega))))
    refine WA_seq (x := (fcd Try.f24 [1, 1, 1, 1, 0])) (y := (fcd Try.f24 [1, 1, 1, 1, 1])) ?_
    refine V_regionX Γ Δ [] [0, 1, 2, 3, 4, 5, 6, 7, 8, 9, 10, 11, 12, 18] (evs ?_)
    all_goals (try with_reducible (repeat' (first | apply And.intro | intro _)))
    all_goals (try (first | with_reducible refine wa_id ?_ | exact True.intro | exact rspan_fn _ _ | omega | (have := sp_bd a 0; have := sp_bd a 1; have := sp_bd b 0; have := sp_bd b 1; exact of_fn _ _ _ _ (by omega) (by omega) (by omega) (by omega))))
    refine WA_seq (x := (fcd Try.f24 [1, 1, 1, 1, 1, 0])) (y := (fcd Try.f24 [1, 1, 1, 1, 1, 1])) ?_
    refine V_regionX Γ Δ [] [0, 1, 2, 3, 4, 5, 6, 7, 8, 9, 10, 11, 12, 18] (evs ?_)
    all_goals (try with_reducible (repeat' (first | apply And.intro | intro _)))
    all_goals (try (first | with_reducible refine wa_id ?_ | exact True.intro | exact rspan_fn _ _ | omega | (have := sp_bd a 0; have := sp_bd a 1; have := sp_bd b 0; have := sp_bd b 1; exact of_fn _ _ _ _ (by omega) (by omega) (by omega) (by omega))))
    refine WA_seq (x := (fcd Try.f24 [1, 1, 1, 1, 1, 1, 0])) (y := (fcd Try.f24 [1, 1, 1, 1, 1, 1, 1])) ?_
    refine V_regionX Γ Δ [] [0, 1, 2, 3, 4, 5, 6, 7, 8, 9, 10, 11, 12, 18] (evs ?_)
    all_goals (try with_reducible (repeat' (first | apply And.intro | intro _)))
    all_goals (try (first | with_reducible refine wa_id ?_ | exact True.intro | exact of_fn _ _ _ _ (by omega) (by omega) (by omega) (by omega) | omega | (have := sp_bd a 0; have := sp_bd a 1; have := sp_bd b 0; have := sp_bd b 1; exact of_fn _ _ _ _ (by omega) (by omega) (by omega) (by omega))))
    refine V_ret (evs ?_)
    first | exact fe (r := zR) (fin_m1 hc) | exact fe (fin_m3 hc)

/-- imageeditor/rect.Join -/
theorem join_fn (a b : Rc) : Eng.Fn Try.prog 25 [rcD a, rcD b] (.dat (rcD (joinR a b))) := by
  refine Eng.Fn.by (fn := Try.f25) 54 [.cell 4 23] Try.func25 rfl Try.ntmps25 rfl (by simp) fun w0 => ?_
  refine WA_seq (x := (fcd Try.f25 [0])) (y := (fcd Try.f25 [1])) ?_
  refine V_regionX Γ Δ [] [0, 1, 2, 3, 4, 5, 13, 17] (evs ?_)
  all_goals (try with_reducible (repeat' (first | apply And.intro | intro _)))
  all_goals (try (first | with_reducible refine wa_id ?_ | exact True.intro | omega))
  refine WA_seq (x := (fcd Try.f25 [1, 0])) (y := (fcd Try.f25 [1, 1])) ?_
  refine WA_block (c := (fcd Try.f25 [1, 0, 0])) ?_
  refine WA_seq (x := (fcd Try.f25 [1, 0, 0, 0])) (y := (fcd Try.f25 [1, 0, 0, 1])) ?_
  refine V_regionX Γ Δ [] [0, 1, 2, 3, 4, 5, 13, 17] (evs ?_)
  all_goals (try with_reducible (repeat' (first | apply And.intro | intro _)))
  all_goals (try (first | with_reducible refine wa_id ?_ | exact True.intro | exact empty_fn _ | omega))
  refine V_cond (evs ?_)
  refine ⟨fun hc => ?_, fun hc => ?_⟩
  · refine WA_seq (x := (fcd Try.f25 [1, 0, 0, 1, 0, 0])) (y := (fcd Try.f25 [1, 0, 0, 1, 0, 1])) ?_
    refine V_regionX Γ Δ [] [0, 1, 2, 3, 4, 5, 13, 17] (evs ?_)
    all_goals (try with_reducible (repeat' (first | apply And.intro | intro _)))
    all_goals (try (first | with_reducible refine wa_id ?_ | exact True.intro | omega))
    refine V_ret (evs ?_)
    first | exact fe (r := zR) (fin_j1 hc) | exact fe (fin_j2 ‹_› hc) | exact fe (fin_j3 ‹_› hc) | exact fe (fin_j4 ‹_› hc)
  · refine WA_seq (x := (fcd Try.f25 [1, 0, 0, 1, 1, 0])) (y := (fcd Try.f25 [1, 0, 0, 1, 1, 1])) ?_
    refine V_regionX Γ Δ [] [0, 1, 2, 3, 4, 5, 13, 17] (evs ?_)
    all_goals (try with_reducible (repeat' (first | apply And.intro | intro _)))
    all_goals (try (first | with_reducible refine wa_id ?_ | exact True.intro | exact empty_fn _ | omega))
    refine V_cond (evs ?_)
    refine ⟨fun hc => ?_, fun hc => ?_⟩
    · refine WA_seq (x := (fcd Try.f25 [1, 0, 0, 1, 1, 1, 0, 0])) (y := (fcd Try.f25 [1, 0, 0, 1, 1, 1, 0, 1])) ?_
      refine V_regionX Γ Δ [] [0, 1, 2, 3, 4, 5, 13, 17] (evs ?_)
      all_goals (try with_reducible (repeat' (first | apply And.intro | intro _)))
      all_goals (try (first | with_reducible refine wa_id ?_ | exact True.intro | omega))
      refine V_ret (evs ?_)
      first | exact fe (r := zR) (fin_j1 hc) | exact fe (fin_j2 ‹_› hc) | exact fe (fin_j3 ‹_› hc) | exact fe (fin_j4 ‹_› hc)
    · refine WA_seq (x := (fcd Try.f25 [1, 0, 0, 1, 1, 1, 1, 0])) (y := (fcd Try.f25 [1, 0, 0, 1, 1, 1, 1, 1])) ?_
      refine V_regionX Γ Δ [] [0, 1, 2, 3, 4, 5, 13, 17] (evs ?_)
      all_goals (try with_reducible (repeat' (first | apply And.intro | intro _)))
      all_goals (try (first | with_reducible refine wa_id ?_ | exact True.intro | exact empty_fn _ | omega))
      refine V_cond (evs ?_)
      refine ⟨fun hc => ?_, fun hc => ?_⟩
      · refine WA_seq (x := (fcd Try.f25 [1, 0, 0, 1, 1, 1, 1, 1, 0, 0])) (y := (fcd Try.f25 [1, 0, 0, 1, 1, 1, 1, 1, 0, 1])) ?_
        refine V_regionX Γ Δ [] [0, 1, 2, 3, 4, 5, 13, 17] (evs ?_)
        all_goals (try with_reducible (repeat' (first | apply And.intro | intro _)))
        all_goals (try (first | with_reducible refine wa_id ?_ | exact True.intro | omega))
        refine V_ret (evs ?_)
        first | exact fe (r := zR) (fin_j1 hc) | exact fe (fin_j2 ‹_› hc) | exact fe (fin_j3 ‹_› hc) | exact fe (fin_j4 ‹_› hc)
      · refine WA_skip ?_
        refine WA_seq (x := (fcd Try.f25 [1, 1, 0])) (y := (fcd Try.f25 [1, 1, 1])) ?_
        refine V_regionX Γ Δ [] [0, 1, 2, 3, 4, 5, 13, 17] (evs ?_)
        all_goals (try with_reducible (repeat' (first | apply And.intro | intro _)))
        all_goals (try (first | with_reducible refine wa_id ?_ | exact True.intro | exact between_fn _ _ _ _ | omega))
        refine V_ret (evs ?_)
        first | exact fe (r := zR) (fin_j1 hc) | exact fe (fin_j2 ‹_› hc) | exact fe (fin_j3 ‹_› hc) | exact fe (fin_j4 ‹_› hc)

/-- imageeditor/imageeditorref02.Join -/
theorem rjoin_fn (a b : Rc) : Eng.Fn Try.prog 26 [rcD a, rcD b] (.dat (rcD (joinR a b))) := by
  refine Eng.Fn.by (fn := Try.f26) 59 [.cell 4 23] Try.func26 rfl Try.ntmps26 rfl (by simp) fun w0 => ?_
  refine WA_seq (x := (fcd Try.f26 [0])) (y := (fcd Try.f26 [1])) ?_
  refine V_regionX Γ Δ [] [0, 1, 2, 3, 4, 5, 6, 7, 8, 9, 10, 11, 12, 18, 21, 24] (evs ?_)
  all_goals (try with_reducible (repeat' (first | apply And.intro | intro _)))
  all_goals (try (first | with_reducible refine wa_id ?_ | exact True.intro | omega | (have := sp_bd a 0; have := sp_bd a 1; have := sp_bd b 0; have := sp_bd b 1; exact of_fn _ _ _ _ (by omega) (by omega) (by omega) (by omega))))
  refine WA_seq (x := (fcd Try.f26 [1, 0])) (y := (fcd Try.f26 [1, 1])) ?_
  refine WA_seq (x := (fcd Try.f26 [1, 0, 0])) (y := (fcd Try.f26 [1, 0, 1])) ?_
  refine V_regionX Γ Δ [] [0, 1, 2, 3, 4, 5, 6, 7, 8, 9, 10, 11, 12, 18, 21, 24] (evs ?_)
  all_goals (try with_reducible (repeat' (first | apply And.intro | intro _)))
  all_goals (try (first | with_reducible refine wa_id ?_ | exact True.intro | exact rempty_fn _ | omega | (have := sp_bd a 0; have := sp_bd a 1; have := sp_bd b 0; have := sp_bd b 1; exact of_fn _ _ _ _ (by omega) (by omega) (by omega) (by omega))))
  refine V_cond (evs ?_)
  refine ⟨fun hc => ?_, fun hc => ?_⟩
  · refine WA_seq (x := (fcd Try.f26 [1, 0, 1, 0, 0])) (y := (fcd Try.f26 [1, 0, 1, 0, 1])) ?_
    refine V_regionX Γ Δ [] [0, 1, 2, 3, 4, 5, 6, 7, 8, 9, 10, 11, 12, 18, 21, 24] (evs ?_)
    all_goals (try with_reducible (repeat' (first | apply And.intro | intro _)))
    all_goals (try (first | with_reducible refine wa_id ?_ | exact True.intro | omega | (have := sp_bd a 0; have := sp_bd a 1; have := sp_bd b 0; have := sp_bd b 1; exact of_fn _ _ _ _ (by omega) (by omega) (by omega) (by omega))))
    refine V_ret (evs ?_)
    first | exact fe (r := zR) (fin_j1 hc) | exact fe (fin_j2 ‹_› hc) | exact fe (fin_j3 ‹_› hc) | exact fe (fin_j5 ‹_› hc)
  · refine WA_skip ?_
    refine WA_seq (x := (fcd Try.f26 [1, 1, 0])) (y := (fcd Try.f26 [1, 1, 1])) ?_
    refine WA_seq (x := (fcd Try.f26 [1, 1, 0, 0])) (y := (fcd Try.f26 [1, 1, 0, 1])) ?_
    refine V_regionX Γ Δ [] [0, 1, 2, 3, 4, 5, 6, 7, 8, 9, 10, 11, 12, 18, 21, 24] (evs ?_)
    all_goals (try with_reducible (repeat' (first | apply And.intro | intro _)))
    all_goals (try (first | with_reducible refine wa_id ?_ | exact True.intro | exact rempty_fn _ | omega | (have := sp_bd a 0; have := sp_bd a 1; have := sp_bd b 0; have := sp_bd b 1; exact of_fn _ _ _ _ (by omega) (by omega) (by omega) (by omega))))
    refine V_cond (evs ?_)
    refine ⟨fun hc => ?_, fun hc => ?_⟩
    · refine WA_seq (x := (fcd Try.f26 [1, 1, 0, 1, 0, 0])) (y := (fcd Try.f26 [1, 1, 0, 1, 0, 1])) ?_
      refine V_regionX Γ Δ [] [0, 1, 2, 3, 4, 5, 6, 7, 8, 9, 10, 11, 12, 18, 21, 24] (evs ?_)
      all_goals (try with_reducible (repeat' (first | apply And.intro | intro _)))
      all_goals (try (first | with_reducible refine wa_id ?_ | exact True.intro | omega | (have := sp_bd a 0; have := sp_bd a 1; have := sp_bd b 0; have := sp_bd b 1; exact of_fn _ _ _ _ (by omega) (by omega) (by omega) (by omega))))
      refine V_ret (evs ?_)
      first | exact fe (r := zR) (fin_j1 hc) | exact fe (fin_j2 ‹_› hc) | exact fe (fin_j3 ‹_› hc) | exact fe (fin_j5 ‹_› hc)
    · refine WA_skip ?_
      refine WA_seq (x := (fcd Try.f26 [1, 1, 1, 0])) (y := (fcd Try.f26 [1, 1, 1, 1])) ?_
      refine WA_seq (x := (fcd Try.f26 [1, 1, 1, 0, 0])) (y := (fcd Try.f26 [1, 1, 1, 0, 1])) ?_
      refine V_regionX Γ Δ [] [0, 1, 2, 3, 4, 5, 6, 7, 8, 9, 10, 11, 12, 18, 21, 24] (evs ?_)
      all_goals (try with_reducible (repeat' (first | apply And.intro | intro _)))
      all_goals (try (first | with_reducible refine wa_id ?_ | exact True.intro | exact rempty_fn _ | omega | (have := sp_bd a 0; have := sp_bd a 1; have := sp_bd b 0; have := sp_bd b 1; exact of_fn _ _ _ _ (by omega) (by omega) (by omega) (by omega))))
      refine V_cond (evs ?_)
      refine ⟨fun hc => ?_, fun hc => ?_⟩
      · refine WA_seq (x := (fcd Try.f26 [1, 1, 1, 0, 1, 0, 0])) (y := (fcd Try.f26 [1, 1, 1, 0, 1, 0, 1])) ?_
        refine V_regionX Γ Δ [] [0, 1, 2, 3, 4, 5, 6, 7, 8, 9, 10, 11, 12, 18, 21, 24] (evs ?_)
        all_goals (try with_reducible (repeat' (first | apply And.intro | intro _)))
        all_goals (try (first | with_reducible refine wa_id ?_ | exact True.intro | omega | (have := sp_bd a 0; have := sp_bd a 1; have := sp_bd b 0; have := sp_bd b 1; exact of_fn _ _ _ _ (by omega) (by omega) (by omega) (by omega))))
        refine V_ret (evs ?_)
        first | exact fe (r := zR) (fin_j1 hc) | exact fe (fin_j2 ‹_› hc) | exact fe (fin_j3 ‹_› hc) | exact fe (fin_j5 ‹_› hc)
      · refine WA_skip ?_
        refine WA_seq (x := (fcd Try.f26 [1, 1, 1, 1, 0])) (y := (fcd Try.f26 [1, 1, 1, 1, 1])) ?_
        refine V_regionX Γ Δ [] [0, 1, 2, 3, 4, 5, 6, 7, 8, 9, 10, 11, 12, 18, 21, 24] (evs ?_)
        all_goals (try with_reducible (repeat' (first | apply And.intro | intro _)))
        all_goals (try (first | with_reducible refine wa_id ?_ | exact True.intro | exact rspan_fn _ _ | omega | (have := sp_bd a 0; have := sp_bd a 1; have := sp_bd b 0; have := sp_bd b 1; exact of_fn _ _ _ _ (by omega) (by omega) (by omega) (by omega))))
        refine WA_seq (x := (fcd Try.f26 [1, 1, 1, 1, 1, 0])) (y := (fcd Try.f26 [1, 1, 1, 1, 1, 1])) ?_
        refine V_regionX Γ Δ [] [0, 1, 2, 3, 4, 5, 6, 7, 8, 9, 10, 11, 12, 18, 21, 24] (evs ?_)
        all_goals (try with_reducible (repeat' (first | apply And.intro | intro _)))
        all_goals (try (first | with_reducible refine wa_id ?_ | exact True.intro | exact rspan_fn _ _ | omega | (have := sp_bd a 0; have := sp_bd a 1; have := sp_bd b 0; have := sp_bd b 1; exact of_fn _ _ _ _ (by omega) (by omega) (by omega) (by omega))))
        refine WA_seq (x := (fcd Try.f26 [1, 1, 1, 1, 1, 1, 0])) (y := (fcd Try.f26 [1, 1, 1, 1, 1, 1, 1])) ?_
        refine V_regionX Γ Δ [] [0, 1, 2, 3, 4, 5, 6, 7, 8, 9, 10, 11, 12, 18, 21, 24] (evs ?_)
        all_goals (try with_reducible (repeat' (first | apply And.intro | intro _)))
        all_goals (try (first | with_reducible refine wa_id ?_ | exact True.intro | exact rspan_fn _ _ | omega | (have := sp_bd a 0; have := sp_bd a 1; have := sp_bd b 0; have := sp_bd b 1; exact of_fn _ _ _ _ (by omega) (by omega) (by omega) (by omega))))
        refine WA_seq (x := (fcd Try.f26 [1, 1, 1, 1, 1, 1, 1, 0])) (y := (fcd Try.f26 [1, 1, 1, 1, 1, 1, 1, 1])) ?_
        refine V_regionX Γ Δ [] [0, 1, 2, 3, 4, 5, 6, 7, 8, 9, 10, 11, 12, 18, 21, 24] (evs ?_)
        all_goals (try with_reducible (repeat' (first | apply And.intro | intro _)))
        all_goals (try (first | with_reducible refine wa_id ?_ | exact True.intro | exact rspan_fn _ _ | omega | (have := sp_bd a 0; have := sp_bd a 1; have := sp_bd b 0; have := sp_bd b 1; exact of_fn _ _ _ _ (by omega) (by omega) (by omega) (by omega))))
        refine WA_seq (x := (fcd Try.f26 [1, 1, 1, 1, 1, 1, 1, 1, 0])) (y := (fcd Try.f26 [1, 1, 1, 1, 1, 1, 1, 1, 1])) ?_
        refine V_regionX Γ Δ [] [0, 1, 2, 3, 4, 5, 6, 7, 8, 9, 10, 11, 12, 18, 21, 24] (evs ?_)
        all_goals (try with_reducible (repeat' (first | apply And.intro | intro _)))
        all_goals (try (first | with_reducible refine wa_id ?_ | exact True.intro | exact of_fn _ _ _ _ (by omega) (by omega) (by omega) (by omega) | omega | (have := sp_bd a 0; have := sp_bd a 1; have := sp_bd b 0; have := sp_bd b 1; exact of_fn _ _ _ _ (by omega) (by omega) (by omega) (by omega))))
        refine V_ret (evs ?_)
        first | exact fe (r := zR) (fin_j1 hc) | exact fe (fin_j2 ‹_› hc) | exact fe (fin_j3 ‹_› hc) | exact fe (fin_j5 ‹_› hc)

/-- imageeditor/rect.Move -/
theorem move_fn (r : Rc) (p : Pt) : Eng.Fn Try.prog 27 [rcD r, ptD p] (.dat (rcD (moveR r p))) := by
  refine Eng.Fn.by (fn := Try.f27) 35 [.cell 4 23] Try.func27 rfl Try.ntmps27 rfl (by simp) fun w0 => ?_
  refine WA_seq (x := (fcd Try.f27 [0])) (y := (fcd Try.f27 [1])) ?_
  refine V_regionX Γ Δ [] [0, 1, 2, 3, 4, 5, 6, 8] (evs ?_)
  all_goals (try with_reducible (repeat' (first | apply And.intro | intro _)))
  all_goals (try (first | with_reducible refine wa_id ?_ | exact True.intro | omega))
  refine WA_seq (x := (fcd Try.f27 [1, 0])) (y := (fcd Try.f27 [1, 1])) ?_
  refine WA_seq (x := (fcd Try.f27 [1, 0, 0])) (y := (fcd Try.f27 [1, 0, 1])) ?_
  refine V_regionX Γ Δ [] [0, 1, 2, 3, 4, 5, 6, 8] (evs ?_)
  all_goals (try with_reducible (repeat' (first | apply And.intro | intro _)))
  all_goals (try (first | with_reducible refine wa_id ?_ | exact True.intro | exact empty_fn _ | omega))
  refine V_cond (evs ?_)
  refine ⟨fun hc => ?_, fun hc => ?_⟩
  · refine WA_seq (x := (fcd Try.f27 [1, 0, 1, 0, 0])) (y := (fcd Try.f27 [1, 0, 1, 0, 1])) ?_
    refine V_regionX Γ Δ [] [0, 1, 2, 3, 4, 5, 6, 8] (evs ?_)
    all_goals (try with_reducible (repeat' (first | apply And.intro | intro _)))
    all_goals (try (first | with_reducible refine wa_id ?_ | exact True.intro | omega))
    refine V_ret (evs ?_)
    first | exact fe (r := zR) (fin_z hc) | exact fe (fin_mv hc)
  · refine WA_skip ?_
    refine WA_seq (x := (fcd Try.f27 [1, 1, 0])) (y := (fcd Try.f27 [1, 1, 1])) ?_
    refine V_regionX Γ Δ [] [0, 1, 2, 3, 4, 5, 6, 8] (evs ?_)
    all_goals (try with_reducible (repeat' (first | apply And.intro | intro _)))
    all_goals (try (first | with_reducible refine wa_id ?_ | exact True.intro | omega))
    refine WA_seq (x := (fcd Try.f27 [1, 1, 1, 0])) (y := (fcd Try.f27 [1, 1, 1, 1])) ?_
    refine V_regionX Γ Δ [] [0, 1, 2, 3, 4, 5, 6, 8] (evs ?_)
    all_goals (try with_reducible (repeat' (first | apply And.intro | intro _)))
    all_goals (try (first | with_reducible refine wa_id ?_ | exact True.intro | omega))
    refine WA_seq (x := (fcd Try.f27 [1, 1, 1, 1, 0])) (y := (fcd Try.f27 [1, 1, 1, 1, 1])) ?_
    refine V_regionX Γ Δ [] [0, 1, 2, 3, 4, 5, 6, 8] (evs ?_)
    all_goals (try with_reducible (repeat' (first | apply And.intro | intro _)))
    all_goals (try (first | with_reducible refine wa_id ?_ | exact True.intro | exact between_fn _ _ _ _ | omega))
    refine V_ret (evs ?_)
    first | exact fe (r := zR) (fin_z hc) | exact fe (fin_mv hc)

/-- imageeditor/imageeditorref02.Move -/
theorem rmove_fn (r : Rc) (p : Pt) : Eng.Fn Try.prog 28 [rcD r, ptD p] (.dat (rcD (moveR r p))) := by
  refine Eng.Fn.by (fn := Try.f28) 43 [.cell 4 23] Try.func28 rfl Try.ntmps28 rfl (by simp) fun w0 => ?_
  refine WA_seq (x := (fcd Try.f28 [0])) (y := (fcd Try.f28 [1])) ?_
  refine V_regionX Γ Δ [] [0, 1, 2, 3, 4, 5, 6, 7, 8, 10] (evs ?_)
  all_goals (try with_reducible (repeat' (first | apply And.intro | intro _)))
  all_goals (try (first | with_reducible refine wa_id ?_ | exact True.intro | omega))
  refine WA_seq (x := (fcd Try.f28 [1, 0])) (y := (fcd Try.f28 [1, 1])) ?_
  refine WA_seq (x := (fcd Try.f28 [1, 0, 0])) (y := (fcd Try.f28 [1, 0, 1])) ?_
  refine V_regionX Γ Δ [] [0, 1, 2, 3, 4, 5, 6, 7, 8, 10] (evs ?_)
  all_goals (try with_reducible (repeat' (first | apply And.intro | intro _)))
  all_goals (try (first | with_reducible refine wa_id ?_ | exact True.intro | exact rempty_fn _ | omega))
  refine V_cond (evs ?_)
  refine ⟨fun hc => ?_, fun hc => ?_⟩
  · refine WA_seq (x := (fcd Try.f28 [1, 0, 1, 0, 0])) (y := (fcd Try.f28 [1, 0, 1, 0, 1])) ?_
    refine V_regionX Γ Δ [] [0, 1, 2, 3, 4, 5, 6, 7, 8, 10] (evs ?_)
    all_goals (try with_reducible (repeat' (first | apply And.intro | intro _)))
    all_goals (try (first | with_reducible refine wa_id ?_ | exact True.intro | omega))
    refine V_ret (evs ?_)
    first | exact fe (r := zR) (fin_z hc) | exact fe (fin_rmv hc)
  · refine WA_skip ?_
    refine WA_seq (x := (fcd Try.f28 [1, 1, 0])) (y := (fcd Try.f28 [1, 1, 1])) ?_
    refine V_regionX Γ Δ [] [0, 1, 2, 3, 4, 5, 6, 7, 8, 10] (evs ?_)
    all_goals (try with_reducible (repeat' (first | apply And.intro | intro _)))
    all_goals (try (first | with_reducible refine wa_id ?_ | exact True.intro | exact rspan_fn _ _ | omega))
    refine WA_seq (x := (fcd Try.f28 [1, 1, 1, 0])) (y := (fcd Try.f28 [1, 1, 1, 1])) ?_
    refine V_regionX Γ Δ [] [0, 1, 2, 3, 4, 5, 6, 7, 8, 10] (evs ?_)
    all_goals (try with_reducible (repeat' (first | apply And.intro | intro _)))
    all_goals (try (first | with_reducible refine wa_id ?_ | exact True.intro | exact rspan_fn _ _ | omega))
    refine WA_seq (x := (fcd Try.f28 [1, 1, 1, 1, 0])) (y := (fcd Try.f28 [1, 1, 1, 1, 1])) ?_
    refine V_draw Γ [] [0, 1, 2, 3, 4, 5, 6, 7, 8, 10] mixed (by kernel_rfl) (evs ?_)
    all_goals (try with_reducible (repeat' (first | apply And.intro | intro _)))
    all_goals (try (first | with_reducible refine wa_id ?_ | exact True.intro | exact limit_fn _ | exact world_fn _ _ _ _ | omega))
    refine V_ret (evs ?_)
    first | exact fe (r := zR) (fin_z hc) | exact fe (fin_rmv hc)

/-- imageeditor/rect.Grow -/
theorem grow_fn (r : Rc) (n : Int) : Eng.Fn Try.prog 29 [rcD r, .i n] (.dat (rcD (growR r n))) := by
  refine Eng.Fn.by (fn := Try.f29) 34 [.cell 4 23] Try.func29 rfl Try.ntmps29 rfl (by simp) fun w0 => ?_
  refine WA_seq (x := (fcd Try.f29 [0])) (y := (fcd Try.f29 [1])) ?_
  refine V_regionX Γ Δ [] [0, 1, 2, 4, 6] (evs ?_)
  all_goals (try with_reducible (repeat' (first | apply And.intro | intro _)))
  all_goals (try (first | with_reducible refine wa_id ?_ | exact True.intro | omega))
  refine WA_seq (x := (fcd Try.f29 [1, 0])) (y := (fcd Try.f29 [1, 1])) ?_
  refine WA_seq (x := (fcd Try.f29 [1, 0, 0])) (y := (fcd Try.f29 [1, 0, 1])) ?_
  refine V_regionX Γ Δ [] [0, 1, 2, 4, 6] (evs ?_)
  all_goals (try with_reducible (repeat' (first | apply And.intro | intro _)))
  all_goals (try (first | with_reducible refine wa_id ?_ | exact True.intro | exact empty_fn _ | omega))
  refine V_cond (evs ?_)
  refine ⟨fun hc => ?_, fun hc => ?_⟩
  · refine WA_seq (x := (fcd Try.f29 [1, 0, 1, 0, 0])) (y := (fcd Try.f29 [1, 0, 1, 0, 1])) ?_
    refine V_regionX Γ Δ [] [0, 1, 2, 4, 6] (evs ?_)
    all_goals (try with_reducible (repeat' (first | apply And.intro | intro _)))
    all_goals (try (first | with_reducible refine wa_id ?_ | exact True.intro | omega))
    refine V_ret (evs ?_)
    first | exact fe (r := zR) (fin_zg hc) | exact fe (fin_gr hc)
  · refine WA_skip ?_
    refine WA_seq (x := (fcd Try.f29 [1, 1, 0])) (y := (fcd Try.f29 [1, 1, 1])) ?_
    refine V_regionX Γ Δ [] [0, 1, 2, 4, 6] (evs ?_)
    all_goals (try with_reducible (repeat' (first | apply And.intro | intro _)))
    all_goals (try (first | with_reducible refine wa_id ?_ | exact True.intro | omega))
    refine WA_seq (x := (fcd Try.f29 [1, 1, 1, 0])) (y := (fcd Try.f29 [1, 1, 1, 1])) ?_
    refine V_regionX Γ Δ [] [0, 1, 2, 4, 6] (evs ?_)
    all_goals (try with_reducible (repeat' (first | apply And.intro | intro _)))
    all_goals (try (first | with_reducible refine wa_id ?_ | exact True.intro | exact between_fn _ _ _ _ | omega))
    refine V_ret (evs ?_)
    first | exact fe (r := zR) (fin_zg hc) | exact fe (fin_gr hc)

/-- imageeditor/imageeditorref02.Grow -/
theorem rgrow_fn (r : Rc) (n : Int) : Eng.Fn Try.prog 30 [rcD r, .i n] (.dat (rcD (growR r n))) := by
  refine Eng.Fn.by (fn := Try.f30) 38 [.cell 4 23] Try.func30 rfl Try.ntmps30 rfl (by simp) fun w0 => ?_
  refine WA_seq (x := (fcd Try.f30 [0])) (y := (fcd Try.f30 [1])) ?_
  refine V_regionX Γ Δ [] [0, 1, 2, 4, 5, 6, 7, 8, 9, 11] (evs ?_)
  all_goals (try with_reducible (repeat' (first | apply And.intro | intro _)))
  all_goals (try (first | with_reducible refine wa_id ?_ | exact True.intro | omega))
  refine WA_seq (x := (fcd Try.f30 [1, 0])) (y := (fcd Try.f30 [1, 1])) ?_
  refine WA_seq (x := (fcd Try.f30 [1, 0, 0])) (y := (fcd Try.f30 [1, 0, 1])) ?_
  refine V_regionX Γ Δ [] [0, 1, 2, 4, 5, 6, 7, 8, 9, 11] (evs ?_)
  all_goals (try with_reducible (repeat' (first | apply And.intro | intro _)))
  all_goals (try (first | with_reducible refine wa_id ?_ | exact True.intro | exact rempty_fn _ | omega))
  refine V_cond (evs ?_)
  refine ⟨fun hc => ?_, fun hc => ?_⟩
  · refine WA_seq (x := (fcd Try.f30 [1, 0, 1, 0, 0])) (y := (fcd Try.f30 [1, 0, 1, 0, 1])) ?_
    refine V_regionX Γ Δ [] [0, 1, 2, 4, 5, 6, 7, 8, 9, 11] (evs ?_)
    all_goals (try with_reducible (repeat' (first | apply And.intro | intro _)))
    all_goals (try (first | with_reducible refine wa_id ?_ | exact True.intro | omega))
    refine V_ret (evs ?_)
    first | exact fe (r := zR) (fin_zg hc) | exact fe (fin_rgr hc)
  · refine WA_skip ?_
    refine WA_seq (x := (fcd Try.f30 [1, 1, 0])) (y := (fcd Try.f30 [1, 1, 1])) ?_
    refine V_regionX Γ Δ [] [0, 1, 2, 4, 5, 6, 7, 8, 9, 11] (evs ?_)
    all_goals (try with_reducible (repeat' (first | apply And.intro | intro _)))
    all_goals (try (first | with_reducible refine wa_id ?_ | exact True.intro | exact rspan_fn _ _ | omega))
    refine WA_seq (x := (fcd Try.f30 [1, 1, 1, 0])) (y := (fcd Try.f30 [1, 1, 1, 1])) ?_
    refine V_regionX Γ Δ [] [0, 1, 2, 4, 5, 6, 7, 8, 9, 11] (evs ?_)
    all_goals (try with_reducible (repeat' (first | apply And.intro | intro _)))
    all_goals (try (first | with_reducible refine wa_id ?_ | exact True.intro | exact rspan_fn _ _ | omega))
    refine WA_seq (x := (fcd Try.f30 [1, 1, 1, 1, 0])) (y := (fcd Try.f30 [1, 1, 1, 1, 1])) ?_
    refine V_regionX Γ Δ [] [0, 1, 2, 4, 5, 6, 7, 8, 9, 11] (evs ?_)
    all_goals (try with_reducible (repeat' (first | apply And.intro | intro _)))
    all_goals (try (first | with_reducible refine wa_id ?_ | exact True.intro | exact limit_fn _ | omega))
    refine WA_seq (x := (fcd Try.f30 [1, 1, 1, 1, 1, 0])) (y := (fcd Try.f30 [1, 1, 1, 1, 1, 1])) ?_
    refine V_regionX Γ Δ [] [0, 1, 2, 4, 5, 6, 7, 8, 9, 11] (evs ?_)
    all_goals (try with_reducible (repeat' (first | apply And.intro | intro _)))
    all_goals (try (first | with_reducible refine wa_id ?_ | exact True.intro | exact world_fn _ _ _ _ | omega))
    refine V_ret (evs ?_)
    first | exact fe (r := zR) (fin_zg hc) | exact fe (fin_rgr hc)

/-- imageeditor/rect.OfTile -/
theorem tileR_fn (p : Pt) : Eng.Fn Try.prog 34 [ptD p] (.dat (rcD (ofTileR p))) := by
  refine Eng.Fn.by (fn := Try.f34) 29 [.cell 2 23] Try.func34 rfl Try.ntmps34 rfl (by simp) fun w0 => ?_
  refine WA_seq (x := (fcd Try.f34 [0])) (y := (fcd Try.f34 [1])) ?_
  refine V_regionX Γ Δ [] [0, 1, 2, 20] (evs ?_)
  all_goals (try with_reducible (repeat' (first | apply And.intro | intro _)))
  all_goals (try (first | with_reducible refine wa_id ?_ | exact True.intro | omega))
  refine WA_seq (x := (fcd Try.f34 [1, 0])) (y := (fcd Try.f34 [1, 1])) ?_
  refine WA_seq (x := (fcd Try.f34 [1, 0, 0])) (y := (fcd Try.f34 [1, 0, 1])) ?_
  refine V_regionX Γ Δ [] [0, 1, 2, 20] (evs ?_)
  all_goals (try with_reducible (repeat' (first | apply And.intro | intro _)))
  all_goals (try (first | with_reducible refine wa_id ?_ | exact True.intro | omega))
  refine V_cond (evs ?_)
  refine ⟨fun hc => ?_, fun hc => ?_⟩
  · refine WA_seq (x := (fcd Try.f34 [1, 0, 1, 0, 0])) (y := (fcd Try.f34 [1, 0, 1, 0, 1])) ?_
    refine V_regionX Γ Δ [] [0, 1, 2, 20] (evs ?_)
    all_goals (try with_reducible (repeat' (first | apply And.intro | intro _)))
    all_goals (try (first | with_reducible refine wa_id ?_ | exact True.intro | omega))
    refine V_ret (evs ?_)
    try simp only [wm] at hc
    first | exact fe (r := zR) (fin_ot1 hc) | exact fe (fin_ot2 hc)
  · refine WA_skip ?_
    refine WA_seq (x := (fcd Try.f34 [1, 1, 0])) (y := (fcd Try.f34 [1, 1, 1])) ?_
    refine V_regionX Γ Δ [] [0, 1, 2, 20] (evs ?_)
    all_goals (try with_reducible (repeat' (first | apply And.intro | intro _)))
    all_goals (try (first | with_reducible refine wa_id ?_ | exact True.intro | omega))
    refine V_ret (evs ?_)
    try simp only [wm] at hc
    first | exact fe (r := zR) (fin_ot1 hc) | exact fe (fin_ot2 hc)

/-- imageeditor/imageeditorref02.OfTile -/
theorem rtileR_fn (p : Pt) : Eng.Fn Try.prog 35 [ptD p] (.dat (rcD (ofTileR p))) := by
  refine Eng.Fn.by (fn := Try.f35) 36 [.cell 2 23] Try.func35 rfl Try.ntmps35 rfl (by simp) fun w0 => ?_
  refine WA_seq (x := (fcd Try.f35 [0])) (y := (fcd Try.f35 [1])) ?_
  refine V_regionX Γ Δ [] [0, 1, 2, 3, 27] (evs ?_)
  all_goals (try with_reducible (repeat' (first | apply And.intro | intro _)))
  all_goals (try (first | with_reducible refine wa_id ?_ | exact True.intro | omega))
  refine WA_seq (x := (fcd Try.f35 [1, 0])) (y := (fcd Try.f35 [1, 1])) ?_
  refine V_regionX Γ Δ [] [0, 1, 2, 3, 27] (evs ?_)
  all_goals (try with_reducible (repeat' (first | apply And.intro | intro _)))
  all_goals (try (first | with_reducible refine wa_id ?_ | exact True.intro | omega))
  refine WA_seq (x := (fcd Try.f35 [1, 1, 0])) (y := (fcd Try.f35 [1, 1, 1])) ?_
  refine WA_seq (x := (fcd Try.f35 [1, 1, 0, 0])) (y := (fcd Try.f35 [1, 1, 0, 1])) ?_
  refine V_regionX Γ Δ [] [0, 1, 2, 3, 27] (evs ?_)
  all_goals (try with_reducible (repeat' (first | apply And.intro | intro _)))
  all_goals (try (first | with_reducible refine wa_id ?_ | exact True.intro | omega))
  refine V_cond (evs ?_)
  refine ⟨fun hc => ?_, fun hc => ?_⟩
  · refine WA_seq (x := (fcd Try.f35 [1, 1, 0, 1, 0, 0])) (y := (fcd Try.f35 [1, 1, 0, 1, 0, 1])) ?_
    refine V_regionX Γ Δ [] [0, 1, 2, 3, 27] (evs ?_)
    all_goals (try with_reducible (repeat' (first | apply And.intro | intro _)))
    all_goals (try (first | with_reducible refine wa_id ?_ | exact True.intro | omega))
    refine V_ret (evs ?_)
    try simp only [wm] at hc
    first | exact fe (r := zR) (fin_ot1 hc) | exact fe (fin_ot2 hc)
  · refine WA_skip ?_
    refine WA_seq (x := (fcd Try.f35 [1, 1, 1, 0])) (y := (fcd Try.f35 [1, 1, 1, 1])) ?_
    refine V_regionX Γ Δ [] [0, 1, 2, 3, 27] (evs ?_)
    all_goals (try with_reducible (repeat' (first | apply And.intro | intro _)))
    all_goals (try (first | with_reducible refine wa_id ?_ | exact True.intro | omega))
    refine V_ret (evs ?_)
    try simp only [wm] at hc
    first | exact fe (r := zR) (fin_ot1 hc) | exact fe (fin_ot2 hc)

end Go.Rect

