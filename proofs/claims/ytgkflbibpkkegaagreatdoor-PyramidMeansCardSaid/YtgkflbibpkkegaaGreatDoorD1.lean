import Derived.Test.YtgkflbibpkkegaaGreatDoorF35
set_option linter.unusedSimpArgs false
set_option linter.unusedVariables false
set_option linter.unusedSimpArgs false
set_option linter.unusedVariables false
namespace Go.S35
open Go.RowKit Go.Proofs Go.Eng Go.Rect
theorem pcount_fn  : Eng.Fn Tryz.prog 71 [] (.dat (.i 4)) := by
  refine Eng.Fn.by (fn := Tryz.f71) 1 [.tmp 0] Tryz.func71 rfl Tryz.ntmps71 rfl (by simp) fun w0 G0 => ?_
  refine WA_seq (x := (fcd Tryz.f71 [0])) (y := (fcd Tryz.f71 [1])) ?_
  refine V_regionX Γ Δ [] [0] (evs ?_)
  all_goals (try with_reducible (repeat' (first | apply And.intro | intro _)))
  all_goals (try (first | with_reducible refine wa_id ?_ | exact True.intro | omega))
  refine WA_seq (x := (fcd Tryz.f71 [1, 0])) (y := (fcd Tryz.f71 [1, 1])) ?_
  refine V_regionX Γ Δ [] [0] (evs ?_)
  all_goals (try with_reducible (repeat' (first | apply And.intro | intro _)))
  all_goals (try (first | with_reducible refine wa_id ?_ | exact True.intro | omega))
  refine V_ret (evs ?_)
  first | exact True.intro | rfl

set_option maxHeartbeats 2000000 in
theorem dhead_fn  : Eng.Fn Tryz.prog 57 [.agg [.i 20, .i 20, .i 0, .v (.slice none 0 0), .i 1, .i 0, .i 0, .v (.slice none 0 0), .v (.slice none 0 0), .v (.slice none 0 0)]] (.dat (.i 0)) := by
  refine Eng.Fn.by (fn := Tryz.f57) 30 [.tmp 2] Tryz.func57 rfl Tryz.ntmps57 rfl (by simp) fun w0 G0 => ?_
  refine WA_seq (x := (fcd Tryz.f57 [0])) (y := (fcd Tryz.f57 [1])) ?_
  refine V_regionX Γ Δ [] [0, 1, 2, 20, 29] (evs ?_)
  all_goals (try with_reducible (repeat' (first | apply And.intro | intro _)))
  all_goals (try (first | with_reducible refine wa_id ?_ | exact True.intro | omega))
  refine WA_seq (x := (fcd Tryz.f57 [1, 0])) (y := (fcd Tryz.f57 [1, 1])) ?_
  refine WA_seq (x := (fcd Tryz.f57 [1, 0, 0])) (y := (fcd Tryz.f57 [1, 0, 1])) ?_
  refine V_regionX Γ Δ [] [0, 1, 2, 20, 29] (evs ?_)
  all_goals (try with_reducible (repeat' (first | apply And.intro | intro _)))
  all_goals (try (first | with_reducible refine wa_id ?_ | exact True.intro | omega))
  refine V_cond (evs ?_)
  first | refine ⟨fun hc => hc.elim, ?_⟩ | refine ⟨fun hc => absurd hc (by omega), fun hc => ?_⟩
  refine WA_skip ?_
  refine WA_seq (x := (fcd Tryz.f57 [1, 1, 0])) (y := (fcd Tryz.f57 [1, 1, 1])) ?_
  refine WA_seq (x := (fcd Tryz.f57 [1, 1, 0, 0])) (y := (fcd Tryz.f57 [1, 1, 0, 1])) ?_
  refine V_draw Γ [] [0, 1, 2, 20, 29] mixed (by kernel_rfl) (evs ?_)
  all_goals (try with_reducible (repeat' (first | apply And.intro | intro _)))
  all_goals (try (first | with_reducible refine wa_id ?_ | exact True.intro | exact pcount_fn | omega))
  refine V_cond (evs ?_)
  first | refine ⟨fun hc => hc.elim, ?_⟩ | refine ⟨fun hc => absurd hc (by omega), fun hc => ?_⟩
  refine WA_skip ?_
  refine WA_seq (x := (fcd Tryz.f57 [1, 1, 1, 0])) (y := (fcd Tryz.f57 [1, 1, 1, 1])) ?_
  refine V_regionX Γ Δ [] [0, 1, 2, 20, 29] (evs ?_)
  all_goals (try with_reducible (repeat' (first | apply And.intro | intro _)))
  all_goals (try (first | with_reducible refine wa_id ?_ | exact True.intro | omega))
  refine V_ret (evs ?_)
  first | exact True.intro | rfl

set_option maxHeartbeats 2000000 in
set_option maxRecDepth 100000 in
theorem dnodes_fn  : Eng.Fn Tryz.prog 58 [.agg [.i 20, .i 20, .i 0, .v (.slice none 0 0), .i 1, .i 0, .i 0, .v (.slice none 0 0), .v (.slice none 0 0), .v (.slice none 0 0)]] (.dat (.i 0)) := by
  refine Eng.Fn.by (fn := Tryz.f58) 99 [.tmp 2] Tryz.func58 rfl Tryz.ntmps58 rfl (by simp) fun w0 G0 => ?_
  refine WA_seq (x := (fcd Tryz.f58 [0])) (y := (fcd Tryz.f58 [1])) ?_
  refine V_regionX Γ Δ [] [0, 1, 2, 3, 4, 5, 6, 7, 9, 10, 11, 18, 19, 20, 21, 32, 43, 51, 57, 75, 80, 93] (evs ?_)
  all_goals (try with_reducible (repeat' (first | apply And.intro | intro _)))
  all_goals (try (first | with_reducible refine wa_id ?_ | exact True.intro | omega))
  refine WA_seq (x := (fcd Tryz.f58 [1, 0])) (y := (fcd Tryz.f58 [1, 1])) ?_
  refine V_regionX Γ Δ [] [0, 1, 2, 3, 4, 5, 6, 7, 9, 10, 11, 18, 19, 20, 21, 32, 43, 51, 57, 75, 80, 93] (evs ?_)
  all_goals (try with_reducible (repeat' (first | apply And.intro | intro _)))
  all_goals (try (first | with_reducible refine wa_id ?_ | exact True.intro | omega))
  refine WA_seq (x := (fcd Tryz.f58 [1, 1, 0])) (y := (fcd Tryz.f58 [1, 1, 1])) ?_
  refine V_regionX Γ Δ [] [0, 1, 2, 3, 4, 5, 6, 7, 9, 10, 11, 18, 19, 20, 21, 32, 43, 51, 57, 75, 80, 93] (evs ?_)
  all_goals (try with_reducible (repeat' (first | apply And.intro | intro _)))
  all_goals (try (first | with_reducible refine wa_id ?_ | exact True.intro | omega))
  refine WA_seq (x := (fcd Tryz.f58 [1, 1, 1, 0])) (y := (fcd Tryz.f58 [1, 1, 1, 1])) ?_
  refine WA_seq (x := (fcd Tryz.f58 [1, 1, 1, 0, 0])) (y := (fcd Tryz.f58 [1, 1, 1, 0, 1])) ?_
  refine V_regionX Γ Δ [] [0, 1, 2, 3, 4, 5, 6, 7, 9, 10, 11, 18, 19, 20, 21, 32, 43, 51, 57, 75, 80, 93] (evs ?_)
  all_goals (try with_reducible (repeat' (first | apply And.intro | intro _)))
  all_goals (try (first | with_reducible refine wa_id ?_ | exact True.intro | omega))
  refine WA_block (c := (fcd Tryz.f58 [1, 1, 1, 0, 1, 0])) ?_
  refine V_loop (c := (fcd Tryz.f58 [1, 1, 1, 0, 1, 0, 0])) (α := Unit) [2, 5, 6, 7, 9, 10, 11, 20, 21, 32, 43, 51, 57, 75, 80, 93] [6, 13000, 13001, 13002, 13003, 17900, 17901, 17902, 17903] (fun _ => [(20, .dat (.i 0))]) (fun _ => []) (fun _ => True) (fun _ => 0) () [] ?_ (evs ?_) ?_
  · trivial
  · (try with_reducible (repeat' (first | apply And.intro | intro _)))
    all_goals (first | exact True.intro | omega | (rfl))
  · intro _ hI
    refine WA_seq (x := (fcd Tryz.f58 [1, 1, 1, 0, 1, 0, 0, 0])) (y := (fcd Tryz.f58 [1, 1, 1, 0, 1, 0, 0, 1])) ?_
    refine V_regionX Γ Δ [] [0, 1, 2, 3, 4, 5, 6, 7, 9, 10, 11, 18, 19, 20, 21, 32, 43, 51, 57, 75, 80, 93] (evs ?_)
    all_goals (try with_reducible (repeat' (first | apply And.intro | intro _)))
    all_goals (try (first | with_reducible refine wa_id ?_ | exact True.intro | omega))
    refine WA_seq (x := (fcd Tryz.f58 [1, 1, 1, 0, 1, 0, 0, 1, 0])) (y := (fcd Tryz.f58 [1, 1, 1, 0, 1, 0, 0, 1, 1])) ?_
    refine V_cond (evs ?_)
    first | refine ⟨fun hc => hc.elim, ?_⟩ | refine ⟨fun hc => absurd hc (by omega), fun hc => ?_⟩
    refine V_exit (evs ?_)
    refine WA_seq (x := (fcd Tryz.f58 [1, 1, 1, 1, 0])) (y := (fcd Tryz.f58 [1, 1, 1, 1, 1])) ?_
    refine V_regionX Γ Δ [] [0, 1, 2, 3, 4, 5, 6, 7, 9, 10, 11, 18, 19, 20, 21, 32, 43, 51, 57, 75, 80, 93] (evs ?_)
    all_goals (try with_reducible (repeat' (first | apply And.intro | intro _)))
    all_goals (try (first | with_reducible refine wa_id ?_ | exact True.intro | omega))
    refine V_ret (evs ?_)
    first | exact True.intro | rfl

set_option maxHeartbeats 2000000 in
set_option maxRecDepth 100000 in
theorem dclips_fn  : Eng.Fn Tryz.prog 59 [.agg [.i 20, .i 20, .i 0, .v (.slice none 0 0), .i 1, .i 0, .i 0, .v (.slice none 0 0), .v (.slice none 0 0), .v (.slice none 0 0)]] (.dat (.i 0)) := by
  refine Eng.Fn.by (fn := Tryz.f59) 51 [.tmp 2] Tryz.func59 rfl Tryz.ntmps59 rfl (by simp) fun w0 G0 => ?_
  refine WA_seq (x := (fcd Tryz.f59 [0])) (y := (fcd Tryz.f59 [1])) ?_
  refine V_regionX Γ Δ [] [0, 1, 2, 3, 4, 5, 7, 8, 9, 10, 16, 39, 43, 49] (evs ?_)
  all_goals (try with_reducible (repeat' (first | apply And.intro | intro _)))
  all_goals (try (first | with_reducible refine wa_id ?_ | exact True.intro | omega))
  refine WA_seq (x := (fcd Tryz.f59 [1, 0])) (y := (fcd Tryz.f59 [1, 1])) ?_
  refine WA_seq (x := (fcd Tryz.f59 [1, 0, 0])) (y := (fcd Tryz.f59 [1, 0, 1])) ?_
  refine V_regionX Γ Δ [] [0, 1, 2, 3, 4, 5, 7, 8, 9, 10, 16, 39, 43, 49] (evs ?_)
  all_goals (try with_reducible (repeat' (first | apply And.intro | intro _)))
  all_goals (try (first | with_reducible refine wa_id ?_ | exact True.intro | omega))
  refine WA_block (c := (fcd Tryz.f59 [1, 0, 1, 0])) ?_
  refine V_loop (c := (fcd Tryz.f59 [1, 0, 1, 0, 0])) (α := Unit) [2, 3, 4, 5, 9, 10, 16, 39, 43, 49] [4, 14900, 14901, 14902, 14903] (fun _ => [(9, .dat (.i 0))]) (fun _ => []) (fun _ => True) (fun _ => 0) () [] ?_ (evs ?_) ?_
  · trivial
  · (try with_reducible (repeat' (first | apply And.intro | intro _)))
    all_goals (first | exact True.intro | omega | (rfl))
  · intro _ hI
    refine WA_seq (x := (fcd Tryz.f59 [1, 0, 1, 0, 0, 0])) (y := (fcd Tryz.f59 [1, 0, 1, 0, 0, 1])) ?_
    refine V_regionX Γ Δ [] [0, 1, 2, 3, 4, 5, 7, 8, 9, 10, 16, 39, 43, 49] (evs ?_)
    all_goals (try with_reducible (repeat' (first | apply And.intro | intro _)))
    all_goals (try (first | with_reducible refine wa_id ?_ | exact True.intro | omega))
    refine WA_seq (x := (fcd Tryz.f59 [1, 0, 1, 0, 0, 1, 0])) (y := (fcd Tryz.f59 [1, 0, 1, 0, 0, 1, 1])) ?_
    refine V_cond (evs ?_)
    first | refine ⟨fun hc => hc.elim, ?_⟩ | refine ⟨fun hc => absurd hc (by omega), fun hc => ?_⟩
    refine V_exit (evs ?_)
    refine WA_seq (x := (fcd Tryz.f59 [1, 1, 0])) (y := (fcd Tryz.f59 [1, 1, 1])) ?_
    refine V_regionX Γ Δ [] [0, 1, 2, 3, 4, 5, 7, 8, 9, 10, 16, 39, 43, 49] (evs ?_)
    all_goals (try with_reducible (repeat' (first | apply And.intro | intro _)))
    all_goals (try (first | with_reducible refine wa_id ?_ | exact True.intro | omega))
    refine V_ret (evs ?_)
    first | exact True.intro | rfl

set_option maxHeartbeats 2000000 in
set_option maxRecDepth 100000 in
theorem dlinks_fn  : Eng.Fn Tryz.prog 60 [.agg [.i 20, .i 20, .i 0, .v (.slice none 0 0), .i 1, .i 0, .i 0, .v (.slice none 0 0), .v (.slice none 0 0), .v (.slice none 0 0)]] (.dat (.i 0)) := by
  refine Eng.Fn.by (fn := Tryz.f60) 79 [.tmp 2] Tryz.func60 rfl Tryz.ntmps60 rfl (by simp) fun w0 G0 => ?_
  refine WA_seq (x := (fcd Tryz.f60 [0])) (y := (fcd Tryz.f60 [1])) ?_
  refine V_regionX Γ Δ [] [0, 1, 2, 3, 4, 6, 7, 9, 10, 11, 12, 19, 49, 53, 54, 55, 56, 70, 76] (evs ?_)
  all_goals (try with_reducible (repeat' (first | apply And.intro | intro _)))
  all_goals (try (first | with_reducible refine wa_id ?_ | exact True.intro | omega))
  refine WA_seq (x := (fcd Tryz.f60 [1, 0])) (y := (fcd Tryz.f60 [1, 1])) ?_
  refine WA_seq (x := (fcd Tryz.f60 [1, 0, 0])) (y := (fcd Tryz.f60 [1, 0, 1])) ?_
  refine V_regionX Γ Δ [] [0, 1, 2, 3, 4, 6, 7, 9, 10, 11, 12, 19, 49, 53, 54, 55, 56, 70, 76] (evs ?_)
  all_goals (try with_reducible (repeat' (first | apply And.intro | intro _)))
  all_goals (try (first | with_reducible refine wa_id ?_ | exact True.intro | omega))
  refine WA_block (c := (fcd Tryz.f60 [1, 0, 1, 0])) ?_
  refine V_loop (c := (fcd Tryz.f60 [1, 0, 1, 0, 0])) (α := Unit) [2, 3, 4, 6, 7, 11, 12, 19, 49, 53, 54, 55, 56, 70, 76] [4, 6, 11800, 11801, 11802, 11803, 17400, 17401, 17402, 17403] (fun _ => [(11, .dat (.i 0))]) (fun _ => []) (fun _ => True) (fun _ => 0) () [] ?_ (evs ?_) ?_
  · trivial
  · (try with_reducible (repeat' (first | apply And.intro | intro _)))
    all_goals (first | exact True.intro | omega | (rfl))
  · intro _ hI
    refine WA_seq (x := (fcd Tryz.f60 [1, 0, 1, 0, 0, 0])) (y := (fcd Tryz.f60 [1, 0, 1, 0, 0, 1])) ?_
    refine V_regionX Γ Δ [] [0, 1, 2, 3, 4, 6, 7, 9, 10, 11, 12, 19, 49, 53, 54, 55, 56, 70, 76] (evs ?_)
    all_goals (try with_reducible (repeat' (first | apply And.intro | intro _)))
    all_goals (try (first | with_reducible refine wa_id ?_ | exact True.intro | omega))
    refine WA_seq (x := (fcd Tryz.f60 [1, 0, 1, 0, 0, 1, 0])) (y := (fcd Tryz.f60 [1, 0, 1, 0, 0, 1, 1])) ?_
    refine V_cond (evs ?_)
    first | refine ⟨fun hc => hc.elim, ?_⟩ | refine ⟨fun hc => absurd hc (by omega), fun hc => ?_⟩
    refine V_exit (evs ?_)
    refine WA_seq (x := (fcd Tryz.f60 [1, 1, 0])) (y := (fcd Tryz.f60 [1, 1, 1])) ?_
    refine V_regionX Γ Δ [] [0, 1, 2, 3, 4, 6, 7, 9, 10, 11, 12, 19, 49, 53, 54, 55, 56, 70, 76] (evs ?_)
    all_goals (try with_reducible (repeat' (first | apply And.intro | intro _)))
    all_goals (try (first | with_reducible refine wa_id ?_ | exact True.intro | omega))
    refine V_ret (evs ?_)
    first | exact True.intro | rfl

set_option maxHeartbeats 2000000 in
theorem drefs_fn  : Eng.Fn Tryz.prog 61 [.agg [.i 20, .i 20, .i 0, .v (.slice none 0 0), .i 1, .i 0, .i 0, .v (.slice none 0 0), .v (.slice none 0 0), .v (.slice none 0 0)]] (.dat (.i 0)) := by
  refine Eng.Fn.by (fn := Tryz.f61) 37 [.tmp 2] Tryz.func61 rfl Tryz.ntmps61 rfl (by simp) fun w0 G0 => ?_
  refine WA_seq (x := (fcd Tryz.f61 [0])) (y := (fcd Tryz.f61 [1])) ?_
  refine V_regionX Γ Δ [] [0, 1, 2, 4, 5, 7, 8, 9, 10, 14, 15, 21, 22, 29, 35] (evs ?_)
  all_goals (try with_reducible (repeat' (first | apply And.intro | intro _)))
  all_goals (try (first | with_reducible refine wa_id ?_ | exact True.intro | omega))
  refine WA_seq (x := (fcd Tryz.f61 [1, 0])) (y := (fcd Tryz.f61 [1, 1])) ?_
  refine WA_seq (x := (fcd Tryz.f61 [1, 0, 0])) (y := (fcd Tryz.f61 [1, 0, 1])) ?_
  refine V_regionX Γ Δ [] [0, 1, 2, 4, 5, 7, 8, 9, 10, 14, 15, 21, 22, 29, 35] (evs ?_)
  all_goals (try with_reducible (repeat' (first | apply And.intro | intro _)))
  all_goals (try (first | with_reducible refine wa_id ?_ | exact True.intro | omega))
  refine WA_block (c := (fcd Tryz.f61 [1, 0, 1, 0])) ?_
  refine V_loop (c := (fcd Tryz.f61 [1, 0, 1, 0, 0])) (α := Unit) [2, 4, 5, 9, 10, 14, 15, 21, 22, 29, 35] [4, 12000, 12001, 12002, 12003, 12700, 12701, 12702, 12703, 13500, 13501, 13502, 13503] (fun _ => [(9, .dat (.i 0))]) (fun _ => []) (fun _ => True) (fun _ => 0) () [] ?_ (evs ?_) ?_
  · trivial
  · (try with_reducible (repeat' (first | apply And.intro | intro _)))
    all_goals (first | exact True.intro | omega | (rfl))
  · intro _ hI
    refine WA_seq (x := (fcd Tryz.f61 [1, 0, 1, 0, 0, 0])) (y := (fcd Tryz.f61 [1, 0, 1, 0, 0, 1])) ?_
    refine V_regionX Γ Δ [] [0, 1, 2, 4, 5, 7, 8, 9, 10, 14, 15, 21, 22, 29, 35] (evs ?_)
    all_goals (try with_reducible (repeat' (first | apply And.intro | intro _)))
    all_goals (try (first | with_reducible refine wa_id ?_ | exact True.intro | omega))
    refine WA_seq (x := (fcd Tryz.f61 [1, 0, 1, 0, 0, 1, 0])) (y := (fcd Tryz.f61 [1, 0, 1, 0, 0, 1, 1])) ?_
    refine V_cond (evs ?_)
    first | refine ⟨fun hc => hc.elim, ?_⟩ | refine ⟨fun hc => absurd hc (by omega), fun hc => ?_⟩
    refine V_exit (evs ?_)
    refine WA_seq (x := (fcd Tryz.f61 [1, 1, 0])) (y := (fcd Tryz.f61 [1, 1, 1])) ?_
    refine V_regionX Γ Δ [] [0, 1, 2, 4, 5, 7, 8, 9, 10, 14, 15, 21, 22, 29, 35] (evs ?_)
    all_goals (try with_reducible (repeat' (first | apply And.intro | intro _)))
    all_goals (try (first | with_reducible refine wa_id ?_ | exact True.intro | omega))
    refine V_ret (evs ?_)
    first | exact True.intro | rfl

set_option maxHeartbeats 2000000 in
theorem dcyc_fn  : Eng.Fn Tryz.prog 62 [.agg [.i 20, .i 20, .i 0, .v (.slice none 0 0), .i 1, .i 0, .i 0, .v (.slice none 0 0), .v (.slice none 0 0), .v (.slice none 0 0)]] (.dat (.b false)) := by
  refine Eng.Fn.by (fn := Tryz.f62) 26 [.tmp 2] Tryz.func62 rfl Tryz.ntmps62 rfl (by simp) fun w0 G0 => ?_
  refine WA_seq (x := (fcd Tryz.f62 [0])) (y := (fcd Tryz.f62 [1])) ?_
  refine V_regionX Γ Δ [] [0, 1, 2, 3, 4, 5, 6, 18, 19, 20, 24] (evs ?_)
  all_goals (try with_reducible (repeat' (first | apply And.intro | intro _)))
  all_goals (try (first | with_reducible refine wa_id ?_ | exact True.intro | omega))
  refine WA_seq (x := (fcd Tryz.f62 [1, 0])) (y := (fcd Tryz.f62 [1, 1])) ?_
  refine V_regionX Γ Δ [] [0, 1, 2, 3, 4, 5, 6, 18, 19, 20, 24] (evs ?_)
  all_goals (try with_reducible (repeat' (first | apply And.intro | intro _)))
  all_goals (try (first | with_reducible refine wa_id ?_ | exact True.intro | omega))
  refine WA_seq (x := (fcd Tryz.f62 [1, 1, 0])) (y := (fcd Tryz.f62 [1, 1, 1])) ?_
  refine V_regionX Γ Δ [] [0, 1, 2, 3, 4, 5, 6, 18, 19, 20, 24] (evs ?_)
  all_goals (try with_reducible (repeat' (first | apply And.intro | intro _)))
  all_goals (try (first | with_reducible refine wa_id ?_ | exact True.intro | omega))
  refine WA_seq (x := (fcd Tryz.f62 [1, 1, 1, 0])) (y := (fcd Tryz.f62 [1, 1, 1, 1])) ?_
  refine V_regionX Γ Δ [] [0, 1, 2, 3, 4, 5, 6, 18, 19, 20, 24] (evs ?_)
  all_goals (try with_reducible (repeat' (first | apply And.intro | intro _)))
  all_goals (try (first | with_reducible refine wa_id ?_ | exact True.intro | omega))
  refine WA_seq (x := (fcd Tryz.f62 [1, 1, 1, 1, 0])) (y := (fcd Tryz.f62 [1, 1, 1, 1, 1])) ?_
  refine V_regionX Γ Δ [] [0, 1, 2, 3, 4, 5, 6, 18, 19, 20, 24] (evs ?_)
  all_goals (try with_reducible (repeat' (first | apply And.intro | intro _)))
  all_goals (try (first | with_reducible refine wa_id ?_ | exact True.intro | omega))
  refine WA_seq (x := (fcd Tryz.f62 [1, 1, 1, 1, 1, 0])) (y := (fcd Tryz.f62 [1, 1, 1, 1, 1, 1])) ?_
  refine WA_seq (x := (fcd Tryz.f62 [1, 1, 1, 1, 1, 0, 0])) (y := (fcd Tryz.f62 [1, 1, 1, 1, 1, 0, 1])) ?_
  refine V_regionX Γ Δ [] [0, 1, 2, 3, 4, 5, 6, 18, 19, 20, 24] (evs ?_)
  all_goals (try with_reducible (repeat' (first | apply And.intro | intro _)))
  all_goals (try (first | with_reducible refine wa_id ?_ | exact True.intro | omega))
  refine WA_block (c := (fcd Tryz.f62 [1, 1, 1, 1, 1, 0, 1, 0])) ?_
  refine V_loop (c := (fcd Tryz.f62 [1, 1, 1, 1, 1, 0, 1, 0, 0])) (α := Unit) [2, 6, 19, 20, 24] [12400, 12401, 12402, 12403] (fun _ => [(19, .dat (.i 0))]) (fun _ => []) (fun _ => True) (fun _ => 0) () [] ?_ (evs ?_) ?_
  · trivial
  · (try with_reducible (repeat' (first | apply And.intro | intro _)))
    all_goals (first | exact True.intro | omega | (rfl))
  · intro _ hI
    refine WA_seq (x := (fcd Tryz.f62 [1, 1, 1, 1, 1, 0, 1, 0, 0, 0])) (y := (fcd Tryz.f62 [1, 1, 1, 1, 1, 0, 1, 0, 0, 1])) ?_
    refine V_regionX Γ Δ [] [0, 1, 2, 3, 4, 5, 6, 18, 19, 20, 24] (evs ?_)
    all_goals (try with_reducible (repeat' (first | apply And.intro | intro _)))
    all_goals (try (first | with_reducible refine wa_id ?_ | exact True.intro | omega))
    refine WA_seq (x := (fcd Tryz.f62 [1, 1, 1, 1, 1, 0, 1, 0, 0, 1, 0])) (y := (fcd Tryz.f62 [1, 1, 1, 1, 1, 0, 1, 0, 0, 1, 1])) ?_
    refine V_cond (evs ?_)
    first | refine ⟨fun hc => hc.elim, ?_⟩ | refine ⟨fun hc => absurd hc (by omega), fun hc => ?_⟩
    refine V_exit (evs ?_)
    refine WA_seq (x := (fcd Tryz.f62 [1, 1, 1, 1, 1, 1, 0])) (y := (fcd Tryz.f62 [1, 1, 1, 1, 1, 1, 1])) ?_
    refine V_regionX Γ Δ [] [0, 1, 2, 3, 4, 5, 6, 18, 19, 20, 24] (evs ?_)
    all_goals (try with_reducible (repeat' (first | apply And.intro | intro _)))
    all_goals (try (first | with_reducible refine wa_id ?_ | exact True.intro | omega))
    refine V_ret (evs ?_)
    first | exact True.intro | rfl

set_option maxHeartbeats 2000000 in
set_option maxRecDepth 100000 in
theorem mcheck_fn  : Eng.Fn Tryz.prog 63 [.agg [.i 0, .i 0, .v (.slice none 0 0)]] (.dat (.i 0)) := by
  refine Eng.Fn.by (fn := Tryz.f63) 52 [.tmp 2] Tryz.func63 rfl Tryz.ntmps63 rfl (by simp) fun w0 G0 => ?_
  refine WA_seq (x := (fcd Tryz.f63 [0])) (y := (fcd Tryz.f63 [1])) ?_
  refine V_regionX Γ Δ [] [0, 1, 2, 4, 22, 40, 42, 43, 44, 45, 50] (evs ?_)
  all_goals (try with_reducible (repeat' (first | apply And.intro | intro _)))
  all_goals (try (first | with_reducible refine wa_id ?_ | exact True.intro | omega))
  refine WA_seq (x := (fcd Tryz.f63 [1, 0])) (y := (fcd Tryz.f63 [1, 1])) ?_
  refine WA_seq (x := (fcd Tryz.f63 [1, 0, 0])) (y := (fcd Tryz.f63 [1, 0, 1])) ?_
  refine V_regionX Γ Δ [] [0, 1, 2, 4, 22, 40, 42, 43, 44, 45, 50] (evs ?_)
  all_goals (try with_reducible (repeat' (first | apply And.intro | intro _)))
  all_goals (try (first | with_reducible refine wa_id ?_ | exact True.intro | omega))
  refine V_cond (evs ?_)
  first | refine ⟨fun hc => hc.elim, ?_⟩ | refine ⟨fun hc => absurd hc (by omega), fun hc => ?_⟩
  refine WA_skip ?_
  refine WA_seq (x := (fcd Tryz.f63 [1, 1, 0])) (y := (fcd Tryz.f63 [1, 1, 1])) ?_
  refine WA_seq (x := (fcd Tryz.f63 [1, 1, 0, 0])) (y := (fcd Tryz.f63 [1, 1, 0, 1])) ?_
  refine V_regionX Γ Δ [] [0, 1, 2, 4, 22, 40, 42, 43, 44, 45, 50] (evs ?_)
  simp only [show IntKind.i64.wrap (0 * 0) = 0 from by decide]
  all_goals (try with_reducible (repeat' (first | apply And.intro | intro _)))
  all_goals (try (first | with_reducible refine wa_id ?_ | exact True.intro | omega))
  refine V_cond (evs ?_)
  first | refine ⟨fun hc => hc.elim, ?_⟩ | refine ⟨fun hc => absurd hc (by omega), fun hc => ?_⟩
  refine WA_skip ?_
  refine WA_seq (x := (fcd Tryz.f63 [1, 1, 1, 0])) (y := (fcd Tryz.f63 [1, 1, 1, 1])) ?_
  refine WA_seq (x := (fcd Tryz.f63 [1, 1, 1, 0, 0])) (y := (fcd Tryz.f63 [1, 1, 1, 0, 1])) ?_
  refine V_regionX Γ Δ [] [0, 1, 2, 4, 22, 40, 42, 43, 44, 45, 50] (evs ?_)
  all_goals (try with_reducible (repeat' (first | apply And.intro | intro _)))
  all_goals (try (first | with_reducible refine wa_id ?_ | exact True.intro | omega))
  refine WA_block (c := (fcd Tryz.f63 [1, 1, 1, 0, 1, 0])) ?_
  refine V_loop (c := (fcd Tryz.f63 [1, 1, 1, 0, 1, 0, 0])) (α := Unit) [2, 4, 44, 45, 50] [14900, 14901, 14902, 14903] (fun _ => [(44, .dat (.i 0))]) (fun _ => []) (fun _ => True) (fun _ => 0) () [] ?_ (evs ?_) ?_
  · trivial
  · (try with_reducible (repeat' (first | apply And.intro | intro _)))
    all_goals (first | exact True.intro | omega | (rfl))
  · intro _ hI
    refine WA_seq (x := (fcd Tryz.f63 [1, 1, 1, 0, 1, 0, 0, 0])) (y := (fcd Tryz.f63 [1, 1, 1, 0, 1, 0, 0, 1])) ?_
    refine V_regionX Γ Δ [] [0, 1, 2, 4, 22, 40, 42, 43, 44, 45, 50] (evs ?_)
    all_goals (try with_reducible (repeat' (first | apply And.intro | intro _)))
    all_goals (try (first | with_reducible refine wa_id ?_ | exact True.intro | omega))
    refine WA_seq (x := (fcd Tryz.f63 [1, 1, 1, 0, 1, 0, 0, 1, 0])) (y := (fcd Tryz.f63 [1, 1, 1, 0, 1, 0, 0, 1, 1])) ?_
    refine V_cond (evs ?_)
    first | refine ⟨fun hc => hc.elim, ?_⟩ | refine ⟨fun hc => absurd hc (by omega), fun hc => ?_⟩
    refine V_exit (evs ?_)
    refine WA_seq (x := (fcd Tryz.f63 [1, 1, 1, 1, 0])) (y := (fcd Tryz.f63 [1, 1, 1, 1, 1])) ?_
    refine V_regionX Γ Δ [] [0, 1, 2, 4, 22, 40, 42, 43, 44, 45, 50] (evs ?_)
    all_goals (try with_reducible (repeat' (first | apply And.intro | intro _)))
    all_goals (try (first | with_reducible refine wa_id ?_ | exact True.intro | omega))
    refine V_ret (evs ?_)
    first | exact True.intro | rfl

set_option maxHeartbeats 2000000 in
theorem metac_fn  : Eng.Fn Tryz.prog 64 [.v (.slice none 0 0)] (.dat (.i 0)) := by
  refine Eng.Fn.by (fn := Tryz.f64) 25 [.tmp 2] Tryz.func64 rfl Tryz.ntmps64 rfl (by simp) fun w0 G0 => ?_
  refine WA_seq (x := (fcd Tryz.f64 [0])) (y := (fcd Tryz.f64 [1])) ?_
  refine V_regionX Γ Δ [] [0, 2, 3, 4, 5, 8, 9, 10, 11, 12, 22] (evs ?_)
  all_goals (try with_reducible (repeat' (first | apply And.intro | intro _)))
  all_goals (try (first | with_reducible refine wa_id ?_ | exact True.intro | omega))
  refine WA_seq (x := (fcd Tryz.f64 [1, 0])) (y := (fcd Tryz.f64 [1, 1])) ?_
  refine WA_seq (x := (fcd Tryz.f64 [1, 0, 0])) (y := (fcd Tryz.f64 [1, 0, 1])) ?_
  refine V_regionX Γ Δ [] [0, 2, 3, 4, 5, 8, 9, 10, 11, 12, 22] (evs ?_)
  all_goals (try with_reducible (repeat' (first | apply And.intro | intro _)))
  all_goals (try (first | with_reducible refine wa_id ?_ | exact True.intro | omega))
  refine V_cond (evs ?_)
  first | refine ⟨fun hc => hc.elim, ?_⟩ | refine ⟨fun hc => absurd hc (by omega), fun hc => ?_⟩
  refine WA_skip ?_
  refine WA_seq (x := (fcd Tryz.f64 [1, 1, 0])) (y := (fcd Tryz.f64 [1, 1, 1])) ?_
  refine WA_seq (x := (fcd Tryz.f64 [1, 1, 0, 0])) (y := (fcd Tryz.f64 [1, 1, 0, 1])) ?_
  refine V_regionX Γ Δ [] [0, 2, 3, 4, 5, 8, 9, 10, 11, 12, 22] (evs ?_)
  all_goals (try with_reducible (repeat' (first | apply And.intro | intro _)))
  all_goals (try (first | with_reducible refine wa_id ?_ | exact True.intro | omega))
  refine WA_block (c := (fcd Tryz.f64 [1, 1, 0, 1, 0])) ?_
  refine V_loop (c := (fcd Tryz.f64 [1, 1, 0, 1, 0, 0])) (α := Unit) [2, 3, 4, 5, 11, 12, 22] [4, 12000, 12001, 12002, 12003] (fun _ => [(11, .dat (.i 0))]) (fun _ => []) (fun _ => True) (fun _ => 0) () [] ?_ (evs ?_) ?_
  · trivial
  · (try with_reducible (repeat' (first | apply And.intro | intro _)))
    all_goals (first | exact True.intro | omega | (rfl))
  · intro _ hI
    refine WA_seq (x := (fcd Tryz.f64 [1, 1, 0, 1, 0, 0, 0])) (y := (fcd Tryz.f64 [1, 1, 0, 1, 0, 0, 1])) ?_
    refine V_regionX Γ Δ [] [0, 2, 3, 4, 5, 8, 9, 10, 11, 12, 22] (evs ?_)
    all_goals (try with_reducible (repeat' (first | apply And.intro | intro _)))
    all_goals (try (first | with_reducible refine wa_id ?_ | exact True.intro | omega))
    refine WA_seq (x := (fcd Tryz.f64 [1, 1, 0, 1, 0, 0, 1, 0])) (y := (fcd Tryz.f64 [1, 1, 0, 1, 0, 0, 1, 1])) ?_
    refine V_cond (evs ?_)
    first | refine ⟨fun hc => hc.elim, ?_⟩ | refine ⟨fun hc => absurd hc (by omega), fun hc => ?_⟩
    refine V_exit (evs ?_)
    refine WA_seq (x := (fcd Tryz.f64 [1, 1, 1, 0])) (y := (fcd Tryz.f64 [1, 1, 1, 1])) ?_
    refine V_regionX Γ Δ [] [0, 2, 3, 4, 5, 8, 9, 10, 11, 12, 22] (evs ?_)
    all_goals (try with_reducible (repeat' (first | apply And.intro | intro _)))
    all_goals (try (first | with_reducible refine wa_id ?_ | exact True.intro | omega))
    refine V_ret (evs ?_)
    first | exact True.intro | rfl

set_option maxHeartbeats 2000000 in
set_option maxRecDepth 100000 in
theorem dcheck_fn  : Eng.Fn Tryz.prog 49 [.agg [.i 20, .i 20, .i 0, .v (.slice none 0 0), .i 1, .i 0, .i 0, .v (.slice none 0 0), .v (.slice none 0 0), .v (.slice none 0 0)]] (.dat (.i 0)) := by
  refine Eng.Fn.by (fn := Tryz.f49) 83 [.tmp 2] Tryz.func49 rfl Tryz.ntmps49 rfl (by simp) fun w0 G0 => ?_
  refine WA_seq (x := (fcd Tryz.f49 [0])) (y := (fcd Tryz.f49 [1])) ?_
  refine V_regionX Γ Δ [] [0, 1, 2, 3, 4, 5, 6, 7, 8, 12, 23, 31, 35, 40, 45, 50, 53, 58, 79] (evs ?_)
  all_goals (try with_reducible (repeat' (first | apply And.intro | intro _)))
  all_goals (try (first | with_reducible refine wa_id ?_ | exact True.intro | omega))
  refine WA_seq (x := (fcd Tryz.f49 [1, 0])) (y := (fcd Tryz.f49 [1, 1])) ?_
  refine WA_seq (x := (fcd Tryz.f49 [1, 0, 0])) (y := (fcd Tryz.f49 [1, 0, 1])) ?_
  refine V_regionX Γ Δ [] [0, 1, 2, 3, 4, 5, 6, 7, 8, 12, 23, 31, 35, 40, 45, 50, 53, 58, 79] (evs ?_)
  all_goals (try with_reducible (repeat' (first | apply And.intro | intro _)))
  all_goals (try (first | with_reducible refine wa_id ?_ | exact True.intro | exact dhead_fn | omega))
  refine WA_seq (x := (fcd Tryz.f49 [1, 0, 1, 0])) (y := (fcd Tryz.f49 [1, 0, 1, 1])) ?_
  refine V_regionX Γ Δ [] [0, 1, 2, 3, 4, 5, 6, 7, 8, 12, 23, 31, 35, 40, 45, 50, 53, 58, 79] (evs ?_)
  all_goals (try with_reducible (repeat' (first | apply And.intro | intro _)))
  all_goals (try (first | with_reducible refine wa_id ?_ | exact True.intro | omega))
  refine V_cond (evs ?_)
  first | refine ⟨fun hc => hc.elim, ?_⟩ | refine ⟨fun hc => absurd hc (by omega), fun hc => ?_⟩
  refine WA_skip ?_
  refine WA_seq (x := (fcd Tryz.f49 [1, 1, 0])) (y := (fcd Tryz.f49 [1, 1, 1])) ?_
  refine WA_seq (x := (fcd Tryz.f49 [1, 1, 0, 0])) (y := (fcd Tryz.f49 [1, 1, 0, 1])) ?_
  refine V_regionX Γ Δ [] [0, 1, 2, 3, 4, 5, 6, 7, 8, 12, 23, 31, 35, 40, 45, 50, 53, 58, 79] (evs ?_)
  all_goals (try with_reducible (repeat' (first | apply And.intro | intro _)))
  all_goals (try (first | with_reducible refine wa_id ?_ | exact True.intro | omega))
  refine V_cond (evs ?_)
  first | refine ⟨fun hc => hc.elim, ?_⟩ | refine ⟨fun hc => absurd hc (by omega), fun hc => ?_⟩
  refine WA_skip ?_
  refine WA_seq (x := (fcd Tryz.f49 [1, 1, 1, 0])) (y := (fcd Tryz.f49 [1, 1, 1, 1])) ?_
  refine WA_seq (x := (fcd Tryz.f49 [1, 1, 1, 0, 0])) (y := (fcd Tryz.f49 [1, 1, 1, 0, 1])) ?_
  refine V_regionX Γ Δ [] [0, 1, 2, 3, 4, 5, 6, 7, 8, 12, 23, 31, 35, 40, 45, 50, 53, 58, 79] (evs ?_)
  all_goals (try with_reducible (repeat' (first | apply And.intro | intro _)))
  all_goals (try (first | with_reducible refine wa_id ?_ | exact True.intro | omega))
  refine V_cond (evs ?_)
  first | refine ⟨fun hc => hc.elim, ?_⟩ | refine ⟨fun hc => absurd hc (by omega), fun hc => ?_⟩
  refine WA_skip ?_
  refine WA_seq (x := (fcd Tryz.f49 [1, 1, 1, 1, 0])) (y := (fcd Tryz.f49 [1, 1, 1, 1, 1])) ?_
  refine WA_seq (x := (fcd Tryz.f49 [1, 1, 1, 1, 0, 0])) (y := (fcd Tryz.f49 [1, 1, 1, 1, 0, 1])) ?_
  refine V_regionX Γ Δ [] [0, 1, 2, 3, 4, 5, 6, 7, 8, 12, 23, 31, 35, 40, 45, 50, 53, 58, 79] (evs ?_)
  all_goals (try with_reducible (repeat' (first | apply And.intro | intro _)))
  all_goals (try (first | with_reducible refine wa_id ?_ | exact True.intro | exact dnodes_fn | omega))
  refine WA_seq (x := (fcd Tryz.f49 [1, 1, 1, 1, 0, 1, 0])) (y := (fcd Tryz.f49 [1, 1, 1, 1, 0, 1, 1])) ?_
  refine V_regionX Γ Δ [] [0, 1, 2, 3, 4, 5, 6, 7, 8, 12, 23, 31, 35, 40, 45, 50, 53, 58, 79] (evs ?_)
  all_goals (try with_reducible (repeat' (first | apply And.intro | intro _)))
  all_goals (try (first | with_reducible refine wa_id ?_ | exact True.intro | omega))
  refine V_cond (evs ?_)
  first | refine ⟨fun hc => hc.elim, ?_⟩ | refine ⟨fun hc => absurd hc (by omega), fun hc => ?_⟩
  refine WA_skip ?_
  refine WA_seq (x := (fcd Tryz.f49 [1, 1, 1, 1, 1, 0])) (y := (fcd Tryz.f49 [1, 1, 1, 1, 1, 1])) ?_
  refine WA_seq (x := (fcd Tryz.f49 [1, 1, 1, 1, 1, 0, 0])) (y := (fcd Tryz.f49 [1, 1, 1, 1, 1, 0, 1])) ?_
  refine V_regionX Γ Δ [] [0, 1, 2, 3, 4, 5, 6, 7, 8, 12, 23, 31, 35, 40, 45, 50, 53, 58, 79] (evs ?_)
  all_goals (try with_reducible (repeat' (first | apply And.intro | intro _)))
  all_goals (try (first | with_reducible refine wa_id ?_ | exact True.intro | exact dclips_fn | omega))
  refine WA_seq (x := (fcd Tryz.f49 [1, 1, 1, 1, 1, 0, 1, 0])) (y := (fcd Tryz.f49 [1, 1, 1, 1, 1, 0, 1, 1])) ?_
  refine V_regionX Γ Δ [] [0, 1, 2, 3, 4, 5, 6, 7, 8, 12, 23, 31, 35, 40, 45, 50, 53, 58, 79] (evs ?_)
  all_goals (try with_reducible (repeat' (first | apply And.intro | intro _)))
  all_goals (try (first | with_reducible refine wa_id ?_ | exact True.intro | omega))
  refine V_cond (evs ?_)
  first | refine ⟨fun hc => hc.elim, ?_⟩ | refine ⟨fun hc => absurd hc (by omega), fun hc => ?_⟩
  refine WA_skip ?_
  refine WA_seq (x := (fcd Tryz.f49 [1, 1, 1, 1, 1, 1, 0])) (y := (fcd Tryz.f49 [1, 1, 1, 1, 1, 1, 1])) ?_
  refine WA_seq (x := (fcd Tryz.f49 [1, 1, 1, 1, 1, 1, 0, 0])) (y := (fcd Tryz.f49 [1, 1, 1, 1, 1, 1, 0, 1])) ?_
  refine V_regionX Γ Δ [] [0, 1, 2, 3, 4, 5, 6, 7, 8, 12, 23, 31, 35, 40, 45, 50, 53, 58, 79] (evs ?_)
  all_goals (try with_reducible (repeat' (first | apply And.intro | intro _)))
  all_goals (try (first | with_reducible refine wa_id ?_ | exact True.intro | exact dlinks_fn | omega))
  refine WA_seq (x := (fcd Tryz.f49 [1, 1, 1, 1, 1, 1, 0, 1, 0])) (y := (fcd Tryz.f49 [1, 1, 1, 1, 1, 1, 0, 1, 1])) ?_
  refine V_regionX Γ Δ [] [0, 1, 2, 3, 4, 5, 6, 7, 8, 12, 23, 31, 35, 40, 45, 50, 53, 58, 79] (evs ?_)
  all_goals (try with_reducible (repeat' (first | apply And.intro | intro _)))
  all_goals (try (first | with_reducible refine wa_id ?_ | exact True.intro | omega))
  refine V_cond (evs ?_)
  first | refine ⟨fun hc => hc.elim, ?_⟩ | refine ⟨fun hc => absurd hc (by omega), fun hc => ?_⟩
  refine WA_skip ?_
  refine WA_seq (x := (fcd Tryz.f49 [1, 1, 1, 1, 1, 1, 1, 0])) (y := (fcd Tryz.f49 [1, 1, 1, 1, 1, 1, 1, 1])) ?_
  refine WA_seq (x := (fcd Tryz.f49 [1, 1, 1, 1, 1, 1, 1, 0, 0])) (y := (fcd Tryz.f49 [1, 1, 1, 1, 1, 1, 1, 0, 1])) ?_
  refine V_regionX Γ Δ [] [0, 1, 2, 3, 4, 5, 6, 7, 8, 12, 23, 31, 35, 40, 45, 50, 53, 58, 79] (evs ?_)
  all_goals (try with_reducible (repeat' (first | apply And.intro | intro _)))
  all_goals (try (first | with_reducible refine wa_id ?_ | exact True.intro | exact drefs_fn | omega))
  refine WA_seq (x := (fcd Tryz.f49 [1, 1, 1, 1, 1, 1, 1, 0, 1, 0])) (y := (fcd Tryz.f49 [1, 1, 1, 1, 1, 1, 1, 0, 1, 1])) ?_
  refine V_regionX Γ Δ [] [0, 1, 2, 3, 4, 5, 6, 7, 8, 12, 23, 31, 35, 40, 45, 50, 53, 58, 79] (evs ?_)
  all_goals (try with_reducible (repeat' (first | apply And.intro | intro _)))
  all_goals (try (first | with_reducible refine wa_id ?_ | exact True.intro | omega))
  refine V_cond (evs ?_)
  first | refine ⟨fun hc => hc.elim, ?_⟩ | refine ⟨fun hc => absurd hc (by omega), fun hc => ?_⟩
  refine WA_skip ?_
  refine WA_seq (x := (fcd Tryz.f49 [1, 1, 1, 1, 1, 1, 1, 1, 0])) (y := (fcd Tryz.f49 [1, 1, 1, 1, 1, 1, 1, 1, 1])) ?_
  refine WA_seq (x := (fcd Tryz.f49 [1, 1, 1, 1, 1, 1, 1, 1, 0, 0])) (y := (fcd Tryz.f49 [1, 1, 1, 1, 1, 1, 1, 1, 0, 1])) ?_
  refine V_regionX Γ Δ [] [0, 1, 2, 3, 4, 5, 6, 7, 8, 12, 23, 31, 35, 40, 45, 50, 53, 58, 79] (evs ?_)
  all_goals (try with_reducible (repeat' (first | apply And.intro | intro _)))
  all_goals (try (first | with_reducible refine wa_id ?_ | exact True.intro | exact dcyc_fn | omega))
  refine V_cond (evs ?_)
  first | refine ⟨fun hc => hc.elim, ?_⟩ | refine ⟨fun hc => absurd hc (by omega), fun hc => ?_⟩
  refine WA_skip ?_
  refine WA_seq (x := (fcd Tryz.f49 [1, 1, 1, 1, 1, 1, 1, 1, 1, 0])) (y := (fcd Tryz.f49 [1, 1, 1, 1, 1, 1, 1, 1, 1, 1])) ?_
  refine WA_seq (x := (fcd Tryz.f49 [1, 1, 1, 1, 1, 1, 1, 1, 1, 0, 0])) (y := (fcd Tryz.f49 [1, 1, 1, 1, 1, 1, 1, 1, 1, 0, 1])) ?_
  refine V_regionX Γ Δ [] [0, 1, 2, 3, 4, 5, 6, 7, 8, 12, 23, 31, 35, 40, 45, 50, 53, 58, 79] (evs ?_)
  all_goals (try with_reducible (repeat' (first | apply And.intro | intro _)))
  all_goals (try (first | with_reducible refine wa_id ?_ | exact True.intro | exact mcheck_fn | omega))
  refine WA_seq (x := (fcd Tryz.f49 [1, 1, 1, 1, 1, 1, 1, 1, 1, 0, 1, 0])) (y := (fcd Tryz.f49 [1, 1, 1, 1, 1, 1, 1, 1, 1, 0, 1, 1])) ?_
  refine V_regionX Γ Δ [] [0, 1, 2, 3, 4, 5, 6, 7, 8, 12, 23, 31, 35, 40, 45, 50, 53, 58, 79] (evs ?_)
  all_goals (try with_reducible (repeat' (first | apply And.intro | intro _)))
  all_goals (try (first | with_reducible refine wa_id ?_ | exact True.intro | omega))
  refine V_cond (evs ?_)
  first | refine ⟨fun hc => hc.elim, ?_⟩ | refine ⟨fun hc => absurd hc (by omega), fun hc => ?_⟩
  refine WA_skip ?_
  refine WA_seq (x := (fcd Tryz.f49 [1, 1, 1, 1, 1, 1, 1, 1, 1, 1, 0])) (y := (fcd Tryz.f49 [1, 1, 1, 1, 1, 1, 1, 1, 1, 1, 1])) ?_
  refine WA_seq (x := (fcd Tryz.f49 [1, 1, 1, 1, 1, 1, 1, 1, 1, 1, 0, 0])) (y := (fcd Tryz.f49 [1, 1, 1, 1, 1, 1, 1, 1, 1, 1, 0, 1])) ?_
  refine V_regionX Γ Δ [] [0, 1, 2, 3, 4, 5, 6, 7, 8, 12, 23, 31, 35, 40, 45, 50, 53, 58, 79] (evs ?_)
  all_goals (try with_reducible (repeat' (first | apply And.intro | intro _)))
  all_goals (try (first | with_reducible refine wa_id ?_ | exact True.intro | omega))
  refine V_cond (evs ?_)
  first | refine ⟨fun hc => hc.elim, ?_⟩ | refine ⟨fun hc => absurd hc (by omega), fun hc => ?_⟩
  refine WA_skip ?_
  refine WA_seq (x := (fcd Tryz.f49 [1, 1, 1, 1, 1, 1, 1, 1, 1, 1, 1, 0])) (y := (fcd Tryz.f49 [1, 1, 1, 1, 1, 1, 1, 1, 1, 1, 1, 1])) ?_
  refine V_regionX Γ Δ [] [0, 1, 2, 3, 4, 5, 6, 7, 8, 12, 23, 31, 35, 40, 45, 50, 53, 58, 79] (evs ?_)
  all_goals (try with_reducible (repeat' (first | apply And.intro | intro _)))
  all_goals (try (first | with_reducible refine wa_id ?_ | exact True.intro | exact metac_fn | omega))
  refine V_ret (evs ?_)
  first | exact True.intro | rfl

end Go.S35

