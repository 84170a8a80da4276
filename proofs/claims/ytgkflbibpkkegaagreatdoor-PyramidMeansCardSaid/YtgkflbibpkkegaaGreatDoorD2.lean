import Derived.Test.YtgkflbibpkkegaaGreatDoorD1
import Derived.Test.YtgkflbibpkkegaaGreatDoorA1
set_option linter.unusedSimpArgs false
set_option linter.unusedVariables false
set_option linter.unusedSimpArgs false
set_option linter.unusedVariables false
namespace Go.S35
open Go.RowKit Go.Proofs Go.Eng Go.Rect
theorem canvas_fn  : Eng.Fn Tryz.prog 103 [.agg [.i 20, .i 20, .i 0, .v (.slice none 0 0), .i 1, .i 0, .i 0, .v (.slice none 0 0), .v (.slice none 0 0), .v (.slice none 0 0)]] (.dat (rcD ⟨0, 0, 20, 20⟩)) := by
  refine Eng.Fn.by (fn := Tryz.f103) 8 [.cell 2 23] Tryz.func103 rfl Tryz.ntmps103 rfl (by simp) fun w0 G0 => ?_
  refine WA_seq (x := (fcd Tryz.f103 [0])) (y := (fcd Tryz.f103 [1])) ?_
  refine V_regionX Γ Δ [] [0, 1, 2] (evs ?_)
  all_goals (try with_reducible (repeat' (first | apply And.intro | intro _)))
  all_goals (try (first | with_reducible refine wa_id ?_ | exact True.intro | omega))
  refine WA_seq (x := (fcd Tryz.f103 [1, 0])) (y := (fcd Tryz.f103 [1, 1])) ?_
  refine V_regionX Γ Δ [] [0, 1, 2] (evs ?_)
  all_goals (try with_reducible (repeat' (first | apply And.intro | intro _)))
  all_goals (try (first | with_reducible refine wa_id ?_ | exact True.intro | omega))
  refine V_ret (evs ?_)
  first | exact True.intro | rfl | exact ⟨rfl, rfl, rfl, rfl⟩

theorem einside_fn  : Eng.Fn Tryz.prog 83 [.agg [.i 20, .i 20, .i 0, .v (.slice none 0 0), .i 1, .i 0, .i 0, .v (.slice none 0 0), .v (.slice none 0 0), .v (.slice none 0 0)], .agg [.i 0, .i 0, .i 20, .i 20]] (.dat (.b true)) := by
  refine Eng.Fn.by (fn := Tryz.f83) 18 [.tmp 4] Tryz.func83 rfl Tryz.ntmps83 rfl (by simp) fun w0 G0 => ?_
  refine WA_seq (x := (fcd Tryz.f83 [0])) (y := (fcd Tryz.f83 [1])) ?_
  refine V_regionX Γ Δ [] [0, 1, 2, 3, 4] (evs ?_)
  all_goals (try with_reducible (repeat' (first | apply And.intro | intro _)))
  all_goals (try (first | with_reducible refine wa_id ?_ | exact True.intro | omega | exact valid_fn ⟨0, 0, 20, 20⟩ | exact empty_fn ⟨0, 0, 20, 20⟩ | exact within_fn ⟨0, 0, 20, 20⟩ ⟨0, 0, 20, 20⟩))
  refine WA_seq (x := (fcd Tryz.f83 [1, 0])) (y := (fcd Tryz.f83 [1, 1])) ?_
  refine V_draw Γ [] [0, 1, 2, 3, 4] mixed (by kernel_rfl) (evs ?_)
  all_goals (try with_reducible (repeat' (first | apply And.intro | intro _)))
  all_goals (try (first | with_reducible refine wa_id ?_ | exact True.intro | exact valid_fn _ | exact empty_fn _ | exact canvas_fn | exact within_fn _ _ | omega | exact valid_fn ⟨0, 0, 20, 20⟩ | exact empty_fn ⟨0, 0, 20, 20⟩ | exact within_fn ⟨0, 0, 20, 20⟩ ⟨0, 0, 20, 20⟩))
  refine V_ret (evs ?_)
  first | rfl | (decide)

theorem newev_fn  : Eng.Fn Tryz.prog 84 [.agg [.i 20, .i 20, .i 0, .v (.slice none 0 0), .i 1, .i 0, .i 0, .v (.slice none 0 0), .v (.slice none 0 0), .v (.slice none 0 0)]] (.dat .any) := by
  refine Eng.Fn.by (fn := Tryz.f84) 7 [.tmp 2] Tryz.func84 rfl Tryz.ntmps84 rfl (by simp) fun w0 G0 => ?_
  refine WA_seq (x := (fcd Tryz.f84 [0])) (y := (fcd Tryz.f84 [1])) ?_
  refine V_regionX Γ Δ [] [0, 1, 2] (evs ?_)
  all_goals (try with_reducible (repeat' (first | apply And.intro | intro _)))
  all_goals (try (first | with_reducible refine wa_id ?_ | exact True.intro | omega))
  refine WA_seq (x := (fcd Tryz.f84 [1, 0])) (y := (fcd Tryz.f84 [1, 1])) ?_
  refine V_regionX Γ Δ [] [0, 1, 2] (evs ?_)
  all_goals (try with_reducible (repeat' (first | apply And.intro | intro _)))
  all_goals (try (first | with_reducible refine wa_id ?_ | exact True.intro | omega))
  refine V_ret (evs ?_)
  first | exact True.intro | rfl

theorem kids_fn  : Eng.Fn Tryz.prog 86 [.v (.slice none 0 0), .i 0] (.own 94 43 []) := by
  refine Eng.Fn.by (fn := Tryz.f86) 24 [.tmp 4] Tryz.func86 rfl Tryz.ntmps86 rfl (by simp) fun w0 G0 => ?_
  refine WA_seq (x := (fcd Tryz.f86 [0])) (y := (fcd Tryz.f86 [1])) ?_
  refine V_regionX Γ Δ [] [0, 1, 4, 5, 7, 8, 9, 10, 11, 17] (evs ?_)
  all_goals (try with_reducible (repeat' (first | apply And.intro | intro _)))
  all_goals (try (first | with_reducible refine wa_id ?_ | exact True.intro | omega))
  refine WA_seq (x := (fcd Tryz.f86 [1, 0])) (y := (fcd Tryz.f86 [1, 1])) ?_
  refine V_regionX Γ Δ [] [0, 1, 4, 5, 7, 8, 9, 10, 11, 17] (evs ?_)
  all_goals (try with_reducible (repeat' (first | apply And.intro | intro _)))
  all_goals (try (first | with_reducible refine wa_id ?_ | exact True.intro | omega))
  refine WA_seq (x := (fcd Tryz.f86 [1, 1, 0])) (y := (fcd Tryz.f86 [1, 1, 1])) ?_
  refine WA_seq (x := (fcd Tryz.f86 [1, 1, 0, 0])) (y := (fcd Tryz.f86 [1, 1, 0, 1])) ?_
  refine V_regionX Γ Δ [] [0, 1, 4, 5, 7, 8, 9, 10, 11, 17] (evs ?_)
  all_goals (try with_reducible (repeat' (first | apply And.intro | intro _)))
  all_goals (try (first | with_reducible refine wa_id ?_ | exact True.intro | omega))
  refine WA_block (c := (fcd Tryz.f86 [1, 1, 0, 1, 0])) ?_
  refine V_loop (c := (fcd Tryz.f86 [1, 1, 0, 1, 0, 0])) (α := Unit) [5, 7, 10, 11, 17] [7, 20, 21] (fun _ => [(10, .dat (.i 0)), (5, .dat (.v (.slice none 0 0)))]) (fun _ => []) (fun _ => True) (fun _ => 0) () [] ?_ (evs ?_) ?_
  · trivial
  · (try with_reducible (repeat' (first | apply And.intro | intro _)))
    all_goals (first | exact True.intro | omega | (rfl))
  · intro _ hI
    refine WA_seq (x := (fcd Tryz.f86 [1, 1, 0, 1, 0, 0, 0])) (y := (fcd Tryz.f86 [1, 1, 0, 1, 0, 0, 1])) ?_
    refine V_regionX Γ Δ [] [0, 1, 4, 5, 7, 8, 9, 10, 11, 17] (evs ?_)
    all_goals (try with_reducible (repeat' (first | apply And.intro | intro _)))
    all_goals (try (first | with_reducible refine wa_id ?_ | exact True.intro | omega))
    refine WA_seq (x := (fcd Tryz.f86 [1, 1, 0, 1, 0, 0, 1, 0])) (y := (fcd Tryz.f86 [1, 1, 0, 1, 0, 0, 1, 1])) ?_
    refine V_cond (evs ?_)
    first | refine ⟨fun hc => hc.elim, ?_⟩ | refine ⟨fun hc => absurd hc (by omega), fun hc => ?_⟩
    refine V_exit (evs ?_)
    refine WA_seq (x := (fcd Tryz.f86 [1, 1, 1, 0])) (y := (fcd Tryz.f86 [1, 1, 1, 1])) ?_
    refine V_regionX Γ Δ [] [0, 1, 4, 5, 7, 8, 9, 10, 11, 17] (evs ?_)
    all_goals (try with_reducible (repeat' (first | apply And.intro | intro _)))
    all_goals (try (first | with_reducible refine wa_id ?_ | exact True.intro | omega))
    refine V_ret (evs ?_)
    first | exact True.intro | rfl

theorem eblank_fn (r : Rc) (hz : Z0 r.w r.h) : Eng.Fn Tryz.prog 104 [rcD r] (.agg [.dat (.i r.w), .dat (.i r.h), .own 44 4 ((bkI r).p.map pxC)]) := by
  refine Eng.Fn.by (fn := Tryz.f104) 14 [.cell 2 31] Tryz.func104 rfl Tryz.ntmps104 rfl (by simp) fun w0 G0 => ?_
  refine WA_seq (x := (fcd Tryz.f104 [0])) (y := (fcd Tryz.f104 [1])) ?_
  refine V_regionX Γ Δ [] [0, 1, 2] (evs ?_)
  all_goals (try with_reducible (repeat' (first | apply And.intro | intro _)))
  all_goals (try (first | with_reducible refine wa_id ?_ | exact True.intro | omega))
  refine WA_seq (x := (fcd Tryz.f104 [1, 0])) (y := (fcd Tryz.f104 [1, 1])) ?_
  refine V_draw Γ [] [0, 1, 2] mixed (by kernel_rfl) (evs ?_)
  have hnb := nn_bd hz
  simp only [wN hz, Int.toNat_natCast]
  all_goals (try with_reducible (repeat' (first | apply And.intro | intro _)))
  all_goals (try (first | with_reducible refine wa_id ?_ | exact True.intro | omega))
  refine V_ret (evs ?_)
  first | exact rep_t _ | exact ⟨rfl, rfl, rep_t _⟩ | (simp only [rep_t]; done)

set_option maxHeartbeats 2000000 in
set_option maxRecDepth 100000 in
theorem comp_fn  : Eng.Fn Tryz.prog 85 [.any, .sl 43 [], .agg [.i 0, .i 0, .i 20, .i 20]] (.agg [.dat (.i 20), .dat (.i 20), .own 44 4 ((bkI ⟨0, 0, 20, 20⟩).p.map pxC)]) := by
  refine Eng.Fn.by (fn := Tryz.f85) 96 [.cell 6 31] Tryz.func85 rfl Tryz.ntmps85 rfl (by simp) fun w0 G0 => ?_
  refine WA_seq (x := (fcd Tryz.f85 [0])) (y := (fcd Tryz.f85 [1])) ?_
  refine V_regionX Γ Δ [] [0, 1, 2, 5, 6, 7, 8, 9, 10, 11, 12, 13, 25, 33, 53, 69, 70, 71, 72] (evs ?_)
  all_goals (try with_reducible (repeat' (first | apply And.intro | intro _)))
  all_goals (try (first | with_reducible refine wa_id ?_ | exact True.intro | omega | contradiction | exact eblank_fn ⟨0, 0, 20, 20⟩ (by unfold Z0; decide)))
  refine WA_seq (x := (fcd Tryz.f85 [1, 0])) (y := (fcd Tryz.f85 [1, 1])) ?_
  refine WA_block (c := (fcd Tryz.f85 [1, 0, 0])) ?_
  refine V_loop (c := (fcd Tryz.f85 [1, 0, 0, 0])) (α := Unit) [1, 25] [] (fun _ => [(1, .dat (.sl 43 []))]) (fun _ => []) (fun _ => True) (fun _ => 0) () [] ?_ (evs ?_) ?_
  · trivial
  · (try with_reducible (repeat' (first | apply And.intro | intro _)))
    all_goals (first | exact True.intro | omega | (rfl))
  · intro _ hI
    refine WA_seq (x := (fcd Tryz.f85 [1, 0, 0, 0, 0])) (y := (fcd Tryz.f85 [1, 0, 0, 0, 1])) ?_
    refine WA_seq (x := (fcd Tryz.f85 [1, 0, 0, 0, 0, 0])) (y := (fcd Tryz.f85 [1, 0, 0, 0, 0, 1])) ?_
    refine V_regionX Γ Δ [] [0, 1, 2, 5, 6, 7, 8, 9, 10, 11, 12, 13, 25, 33, 53, 69, 70, 71, 72] (evs ?_)
    all_goals (try with_reducible (repeat' (first | apply And.intro | intro _)))
    all_goals (try (first | with_reducible refine wa_id ?_ | exact True.intro | omega | contradiction | exact eblank_fn ⟨0, 0, 20, 20⟩ (by unfold Z0; decide)))
    refine V_cond (evs ?_)
    first | refine ⟨fun hc => hc.elim, ?_⟩ | refine ⟨fun hc => absurd hc (by omega), fun hc => ?_⟩
    refine V_exit (evs ?_)
    refine WA_seq (x := (fcd Tryz.f85 [1, 1, 0])) (y := (fcd Tryz.f85 [1, 1, 1])) ?_
    refine WA_seq (x := (fcd Tryz.f85 [1, 1, 0, 0])) (y := (fcd Tryz.f85 [1, 1, 0, 1])) ?_
    refine V_regionX Γ Δ [] [0, 1, 2, 5, 6, 7, 8, 9, 10, 11, 12, 13, 25, 33, 53, 69, 70, 71, 72] (evs ?_)
    all_goals (try with_reducible (repeat' (first | apply And.intro | intro _)))
    all_goals (try (first | with_reducible refine wa_id ?_ | exact True.intro | omega | contradiction | exact eblank_fn ⟨0, 0, 20, 20⟩ (by unfold Z0; decide)))
    refine V_cond (evs ?_)
    first | refine ⟨?_, fun hc => hc.elim⟩ | refine ⟨fun hc => ?_, fun hc => absurd hc (by omega)⟩
    refine WA_seq (x := (fcd Tryz.f85 [1, 1, 0, 1, 0, 0])) (y := (fcd Tryz.f85 [1, 1, 0, 1, 0, 1])) ?_
    refine V_regionX Γ Δ [] [0, 1, 2, 5, 6, 7, 8, 9, 10, 11, 12, 13, 25, 33, 53, 69, 70, 71, 72] (evs ?_)
    all_goals (try with_reducible (repeat' (first | apply And.intro | intro _)))
    all_goals (try (first | with_reducible refine wa_id ?_ | exact True.intro | exact eblank_fn ⟨_, _, _, _⟩ (by unfold Z0; omega) | omega | contradiction | exact eblank_fn ⟨0, 0, 20, 20⟩ (by unfold Z0; decide)))
    refine V_ret (evs ?_)
    first | exact True.intro | rfl | exact ⟨rfl, rfl, rfl⟩

set_option maxHeartbeats 2000000 in
theorem egroup_fn  : Eng.Fn Tryz.prog 65 [.agg [.i 20, .i 20, .i 0, .v (.slice none 0 0), .i 1, .i 0, .i 0, .v (.slice none 0 0), .v (.slice none 0 0), .v (.slice none 0 0)], .i 0, .agg [.i 0, .i 0, .i 20, .i 20]] (.tup [.agg [.dat (.i 20), .dat (.i 20), .own 44 4 ((bkI ⟨0, 0, 20, 20⟩).p.map pxC)], .dat (.i 0)]) := by
  refine Eng.Fn.by (fn := Tryz.f65) 45 [.cell 6 31, .tmp 7] Tryz.func65 rfl Tryz.ntmps65 rfl (by simp) fun w0 G0 => ?_
  refine WA_seq (x := (fcd Tryz.f65 [0])) (y := (fcd Tryz.f65 [1])) ?_
  refine V_regionX Γ Δ [42] [0, 1, 2, 3, 5, 6, 7, 8, 9, 13, 17, 22, 30, 35] (evs ?_)
  all_goals (try with_reducible (repeat' (first | apply And.intro | intro _)))
  all_goals (try (first | with_reducible refine wa_id ?_ | exact True.intro | omega))
  refine WA_seq (x := (fcd Tryz.f65 [1, 0])) (y := (fcd Tryz.f65 [1, 1])) ?_
  refine WA_seq (x := (fcd Tryz.f65 [1, 0, 0])) (y := (fcd Tryz.f65 [1, 0, 1])) ?_
  refine V_regionX Γ Δ [42] [0, 1, 2, 3, 5, 6, 7, 8, 9, 13, 17, 22, 30, 35] (evs ?_)
  all_goals (try with_reducible (repeat' (first | apply And.intro | intro _)))
  all_goals (try (first | with_reducible refine wa_id ?_ | exact True.intro | exact dcheck_fn | omega))
  refine WA_seq (x := (fcd Tryz.f65 [1, 0, 1, 0])) (y := (fcd Tryz.f65 [1, 0, 1, 1])) ?_
  refine V_regionX Γ Δ [42] [0, 1, 2, 3, 5, 6, 7, 8, 9, 13, 17, 22, 30, 35] (evs ?_)
  all_goals (try with_reducible (repeat' (first | apply And.intro | intro _)))
  all_goals (try (first | with_reducible refine wa_id ?_ | exact True.intro | omega))
  refine V_cond (evs ?_)
  first | refine ⟨fun hc => hc.elim, ?_⟩ | refine ⟨fun hc => absurd hc (by omega), fun hc => ?_⟩
  refine WA_skip ?_
  refine WA_seq (x := (fcd Tryz.f65 [1, 1, 0])) (y := (fcd Tryz.f65 [1, 1, 1])) ?_
  refine WA_seq (x := (fcd Tryz.f65 [1, 1, 0, 0])) (y := (fcd Tryz.f65 [1, 1, 0, 1])) ?_
  refine V_regionX Γ Δ [42] [0, 1, 2, 3, 5, 6, 7, 8, 9, 13, 17, 22, 30, 35] (evs ?_)
  all_goals (try with_reducible (repeat' (first | apply And.intro | intro _)))
  all_goals (try (first | with_reducible refine wa_id ?_ | exact True.intro | omega))
  refine V_cond (evs ?_)
  first | refine ⟨fun hc => hc.elim, ?_⟩ | refine ⟨fun hc => absurd hc (by omega), fun hc => ?_⟩
  refine WA_skip ?_
  refine WA_seq (x := (fcd Tryz.f65 [1, 1, 1, 0])) (y := (fcd Tryz.f65 [1, 1, 1, 1])) ?_
  refine WA_seq (x := (fcd Tryz.f65 [1, 1, 1, 0, 0])) (y := (fcd Tryz.f65 [1, 1, 1, 0, 1])) ?_
  refine V_regionX Γ Δ [42] [0, 1, 2, 3, 5, 6, 7, 8, 9, 13, 17, 22, 30, 35] (evs ?_)
  all_goals (try with_reducible (repeat' (first | apply And.intro | intro _)))
  all_goals (try (first | with_reducible refine wa_id ?_ | exact True.intro | exact einside_fn | omega))
  refine V_cond (evs ?_)
  first | refine ⟨fun hc => hc.elim, ?_⟩ | refine ⟨fun hc => absurd hc (by omega), fun hc => ?_⟩
  refine WA_skip ?_
  refine WA_seq (x := (fcd Tryz.f65 [1, 1, 1, 1, 0])) (y := (fcd Tryz.f65 [1, 1, 1, 1, 1])) ?_
  refine V_draw Γ [42] [0, 1, 2, 3, 5, 6, 7, 8, 9, 13, 17, 22, 30, 35] mixed (by kernel_rfl) (evs ?_)
  all_goals (try with_reducible (repeat' (first | apply And.intro | intro _)))
  all_goals (try (first | with_reducible refine wa_id ?_ | exact True.intro | exact newev_fn | exact kids_fn | exact comp_fn | omega))
  refine V_ret (evs ?_)
  first | exact True.intro | rfl | exact ⟨⟨rfl, rfl, rfl⟩, rfl⟩

set_option maxHeartbeats 2000000 in
theorem eregion_fn  : Eng.Fn Tryz.prog 51 [.agg [.i 20, .i 20, .i 0, .v (.slice none 0 0), .i 1, .i 0, .i 0, .v (.slice none 0 0), .v (.slice none 0 0), .v (.slice none 0 0)], .agg [.i 0, .i 0, .i 20, .i 20]] (.tup [.agg [.dat (.i 20), .dat (.i 20), .own 44 4 ((bkI ⟨0, 0, 20, 20⟩).p.map pxC)], .dat (.i 0)]) := by
  refine Eng.Fn.by (fn := Tryz.f51) 11 [.cell 4 31, .tmp 5] Tryz.func51 rfl Tryz.ntmps51 rfl (by simp) fun w0 G0 => ?_
  refine WA_seq (x := (fcd Tryz.f51 [0])) (y := (fcd Tryz.f51 [1])) ?_
  refine V_regionX Γ Δ [42] [0, 1, 2, 3, 4, 5] (evs ?_)
  all_goals (try with_reducible (repeat' (first | apply And.intro | intro _)))
  all_goals (try (first | with_reducible refine wa_id ?_ | exact True.intro | omega))
  refine WA_seq (x := (fcd Tryz.f51 [1, 0])) (y := (fcd Tryz.f51 [1, 1])) ?_
  refine V_regionX Γ Δ [42] [0, 1, 2, 3, 4, 5] (evs ?_)
  all_goals (try with_reducible (repeat' (first | apply And.intro | intro _)))
  all_goals (try (first | with_reducible refine wa_id ?_ | exact True.intro | exact egroup_fn | omega))
  refine V_ret (evs ?_)
  first | exact True.intro | rfl | exact ⟨⟨rfl, rfl, rfl⟩, rfl⟩

end Go.S35

