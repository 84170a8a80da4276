import Derived.Test.YtdillkdhpalgcaaF16
set_option linter.unusedSimpArgs false
set_option linter.unusedVariables false
set_option linter.unusedSimpArgs false
set_option linter.unusedVariables false
namespace Go.S16
open Go.RowKit Go.Proofs Go.Eng Go.Rect
/-- imageeditor/num.Floor -/
theorem floor_fn (a b : Int) (h1 : -9223372036854775808 ≤ a) (h2 : a ≤ 9223372036854775807) : Eng.Fn Try.prog 75 [.i a, .i b] (.dat (.i (floorI a b))) := by
  refine Eng.Fn.by (fn := Try.f75) 31 [.tmp 4] Try.func75 rfl Try.ntmps75 rfl (by simp) fun w0 G0 => ?_
  refine WA_seq (x := (fcd Try.f75 [0])) (y := (fcd Try.f75 [1])) ?_
  refine V_regionX Γ Δ [] [0, 1, 4, 5, 7, 13, 27] (evs ?_)
  all_goals (try with_reducible (repeat' (first | apply And.intro | intro _)))
  all_goals (try (first | with_reducible refine wa_id ?_ | exact True.intro | omega))
  refine WA_seq (x := (fcd Try.f75 [1, 0])) (y := (fcd Try.f75 [1, 1])) ?_
  refine WA_seq (x := (fcd Try.f75 [1, 0, 0])) (y := (fcd Try.f75 [1, 0, 1])) ?_
  refine V_regionX Γ Δ [] [0, 1, 4, 5, 7, 13, 27] (evs ?_)
  all_goals (try with_reducible (repeat' (first | apply And.intro | intro _)))
  all_goals (try (first | with_reducible refine wa_id ?_ | exact True.intro | omega))
  refine V_cond (evs ?_)
  refine ⟨fun hc => ?_, fun hc => ?_⟩
  · refine WA_seq (x := (fcd Try.f75 [1, 0, 1, 0, 0])) (y := (fcd Try.f75 [1, 0, 1, 0, 1])) ?_
    refine V_regionX Γ Δ [] [0, 1, 4, 5, 7, 13, 27] (evs ?_)
    all_goals (try with_reducible (repeat' (first | apply And.intro | intro _)))
    all_goals (try (first | with_reducible refine wa_id ?_ | exact True.intro | omega))
    refine V_ret (evs ?_)
    first | exact fl1 hc | exact fl2 ‹_› hc | exact fl3 h1 h2 ‹_› ‹_› hc | exact fl4 h1 h2 ‹_› ‹_› hc
  · refine WA_skip ?_
    refine WA_seq (x := (fcd Try.f75 [1, 1, 0])) (y := (fcd Try.f75 [1, 1, 1])) ?_
    refine WA_seq (x := (fcd Try.f75 [1, 1, 0, 0])) (y := (fcd Try.f75 [1, 1, 0, 1])) ?_
    refine V_regionX Γ Δ [] [0, 1, 4, 5, 7, 13, 27] (evs ?_)
    all_goals (try with_reducible (repeat' (first | apply And.intro | intro _)))
    all_goals (try (first | with_reducible refine wa_id ?_ | exact True.intro | omega))
    refine V_cond (evs ?_)
    refine ⟨fun hc => ?_, fun hc => ?_⟩
    · refine WA_seq (x := (fcd Try.f75 [1, 1, 0, 1, 0, 0])) (y := (fcd Try.f75 [1, 1, 0, 1, 0, 1])) ?_
      refine V_regionX Γ Δ [] [0, 1, 4, 5, 7, 13, 27] (evs ?_)
      all_goals (try with_reducible (repeat' (first | apply And.intro | intro _)))
      all_goals (try (first | with_reducible refine wa_id ?_ | exact True.intro | omega))
      refine V_ret (evs ?_)
      first | exact fl1 hc | exact fl2 ‹_› hc | exact fl3 h1 h2 ‹_› ‹_› hc | exact fl4 h1 h2 ‹_› ‹_› hc
    · refine WA_skip ?_
      refine WA_seq (x := (fcd Try.f75 [1, 1, 1, 0])) (y := (fcd Try.f75 [1, 1, 1, 1])) ?_
      refine V_regionX Γ Δ [] [0, 1, 4, 5, 7, 13, 27] (evs ?_)
      all_goals (try with_reducible (repeat' (first | apply And.intro | intro _)))
      all_goals (try (first | with_reducible refine wa_id ?_ | exact True.intro | omega))
      refine WA_seq (x := (fcd Try.f75 [1, 1, 1, 1, 0])) (y := (fcd Try.f75 [1, 1, 1, 1, 1])) ?_
      refine WA_seq (x := (fcd Try.f75 [1, 1, 1, 1, 0, 0])) (y := (fcd Try.f75 [1, 1, 1, 1, 0, 1])) ?_
      refine V_regionX Γ Δ [] [0, 1, 4, 5, 7, 13, 27] (evs ?_)
      all_goals (try with_reducible (repeat' (first | apply And.intro | intro _)))
      all_goals (try (first | with_reducible refine wa_id ?_ | exact True.intro | omega))
      refine V_cond (evs ?_)
      refine ⟨fun hc => ?_, fun hc => ?_⟩
      · refine V_regionX Γ Δ [] [0, 1, 4, 5, 7, 13, 27] (evs ?_)
        all_goals (try with_reducible (repeat' (first | apply And.intro | intro _)))
        all_goals (try (first | with_reducible refine wa_id ?_ | exact True.intro | omega))
        refine WA_seq (x := (fcd Try.f75 [1, 1, 1, 1, 1, 0])) (y := (fcd Try.f75 [1, 1, 1, 1, 1, 1])) ?_
        refine V_regionX Γ Δ [] [0, 1, 4, 5, 7, 13, 27] (evs ?_)
        all_goals (try with_reducible (repeat' (first | apply And.intro | intro _)))
        all_goals (try (first | with_reducible refine wa_id ?_ | exact True.intro | omega))
        refine V_ret (evs ?_)
        first | exact fl1 hc | exact fl2 ‹_› hc | exact fl3 h1 h2 ‹_› ‹_› hc | exact fl4 h1 h2 ‹_› ‹_› hc
      · refine WA_skip ?_
        refine WA_seq (x := (fcd Try.f75 [1, 1, 1, 1, 1, 0])) (y := (fcd Try.f75 [1, 1, 1, 1, 1, 1])) ?_
        refine V_regionX Γ Δ [] [0, 1, 4, 5, 7, 13, 27] (evs ?_)
        all_goals (try with_reducible (repeat' (first | apply And.intro | intro _)))
        all_goals (try (first | with_reducible refine wa_id ?_ | exact True.intro | omega))
        refine V_ret (evs ?_)
        first | exact fl1 hc | exact fl2 ‹_› hc | exact fl3 h1 h2 ‹_› ‹_› hc | exact fl4 h1 h2 ‹_› ‹_› hc

set_option maxRecDepth 100000 in
/-- imageeditor/num.Div -/
theorem divw_fn (a b : Int) (h1 : -2305843009213693952 ≤ a) (h2 : a ≤ 2305843009213693952) (h3 : 0 ≤ b) (h4 : b ≤ 70368744177664) : Eng.Fn Try.prog 65 [.i a, .i b] (.dat (.i (divI a b))) := by
  refine Eng.Fn.by (fn := Try.f65) 46 [.tmp 4] Try.func65 rfl Try.ntmps65 rfl (by simp) fun w0 G0 => ?_
  refine WA_seq (x := (fcd Try.f65 [0])) (y := (fcd Try.f65 [1])) ?_
  refine V_regionX Γ Δ [] [0, 1, 4, 5, 6, 8, 14, 42] (evs ?_)
  all_goals (try with_reducible (repeat' (first | apply And.intro | intro _)))
  all_goals (try (first | with_reducible refine wa_id ?_ | exact True.intro | omega))
  refine WA_seq (x := (fcd Try.f65 [1, 0])) (y := (fcd Try.f65 [1, 1])) ?_
  refine WA_seq (x := (fcd Try.f65 [1, 0, 0])) (y := (fcd Try.f65 [1, 0, 1])) ?_
  refine V_regionX Γ Δ [] [0, 1, 4, 5, 6, 8, 14, 42] (evs ?_)
  all_goals (try with_reducible (repeat' (first | apply And.intro | intro _)))
  all_goals (try (first | with_reducible refine wa_id ?_ | exact True.intro | omega))
  refine V_cond (evs ?_)
  refine ⟨fun hc => ?_, fun hc => ?_⟩
  · refine WA_seq (x := (fcd Try.f65 [1, 0, 1, 0, 0])) (y := (fcd Try.f65 [1, 0, 1, 0, 1])) ?_
    refine V_regionX Γ Δ [] [0, 1, 4, 5, 6, 8, 14, 42] (evs ?_)
    all_goals (try with_reducible (repeat' (first | apply And.intro | intro _)))
    all_goals (try (first | with_reducible refine wa_id ?_ | exact True.intro | omega))
    refine V_ret (evs ?_)
    first | (exfalso; omega) | exact dv0 hc | exact dw1z h1 h2 h3 h4 hc | exact dw2z h1 h2 h3 h4 ‹_› hc
  · refine WA_skip ?_
    refine WA_seq (x := (fcd Try.f65 [1, 1, 0])) (y := (fcd Try.f65 [1, 1, 1])) ?_
    refine WA_seq (x := (fcd Try.f65 [1, 1, 0, 0])) (y := (fcd Try.f65 [1, 1, 0, 1])) ?_
    refine V_regionX Γ Δ [] [0, 1, 4, 5, 6, 8, 14, 42] (evs ?_)
    all_goals (try with_reducible (repeat' (first | apply And.intro | intro _)))
    all_goals (try (first | with_reducible refine wa_id ?_ | exact True.intro | omega))
    refine V_cond (evs ?_)
    refine ⟨fun hc => ?_, fun hc => ?_⟩
    · refine WA_seq (x := (fcd Try.f65 [1, 1, 0, 1, 0, 0])) (y := (fcd Try.f65 [1, 1, 0, 1, 0, 1])) ?_
      refine V_regionX Γ Δ [] [0, 1, 4, 5, 6, 8, 14, 42] (evs ?_)
      all_goals (try with_reducible (repeat' (first | apply And.intro | intro _)))
      all_goals (try (first | with_reducible refine wa_id ?_ | exact True.intro | omega))
      refine V_ret (evs ?_)
      first | (exfalso; omega) | exact dv0 hc | exact dw1z h1 h2 h3 h4 hc | exact dw2z h1 h2 h3 h4 ‹_› hc
    · refine WA_skip ?_
      refine WA_seq (x := (fcd Try.f65 [1, 1, 1, 0])) (y := (fcd Try.f65 [1, 1, 1, 1])) ?_
      refine V_regionX Γ Δ [] [0, 1, 4, 5, 6, 8, 14, 42] (evs ?_)
      all_goals (try with_reducible (repeat' (first | apply And.intro | intro _)))
      all_goals (try (first | with_reducible refine wa_id ?_ | exact True.intro | exact floor_fn _ _ (by omega) (by omega) | omega))
      refine WA_seq (x := (fcd Try.f65 [1, 1, 1, 1, 0])) (y := (fcd Try.f65 [1, 1, 1, 1, 1])) ?_
      refine V_regionX Γ Δ [] [0, 1, 4, 5, 6, 8, 14, 42] (evs ?_)
      all_goals (try with_reducible (repeat' (first | apply And.intro | intro _)))
      all_goals (try (first | with_reducible refine wa_id ?_ | exact True.intro | omega))
      refine WA_seq (x := (fcd Try.f65 [1, 1, 1, 1, 1, 0])) (y := (fcd Try.f65 [1, 1, 1, 1, 1, 1])) ?_
      refine WA_seq (x := (fcd Try.f65 [1, 1, 1, 1, 1, 0, 0])) (y := (fcd Try.f65 [1, 1, 1, 1, 1, 0, 1])) ?_
      refine V_regionX Γ Δ [] [0, 1, 4, 5, 6, 8, 14, 42] (evs ?_)
      all_goals (try with_reducible (repeat' (first | apply And.intro | intro _)))
      all_goals (try (first | with_reducible refine wa_id ?_ | exact True.intro | omega))
      refine V_cond (evs ?_)
      refine ⟨fun hc => ?_, fun hc => ?_⟩
      · refine V_regionX Γ Δ [] [0, 1, 4, 5, 6, 8, 14, 42] (evs ?_)
        all_goals (try with_reducible (repeat' (first | apply And.intro | intro _)))
        all_goals (try (first | with_reducible refine wa_id ?_ | exact True.intro | omega))
        refine WA_seq (x := (fcd Try.f65 [1, 1, 1, 1, 1, 1, 0])) (y := (fcd Try.f65 [1, 1, 1, 1, 1, 1, 1])) ?_
        refine V_regionX Γ Δ [] [0, 1, 4, 5, 6, 8, 14, 42] (evs ?_)
        all_goals (try with_reducible (repeat' (first | apply And.intro | intro _)))
        all_goals (try (first | with_reducible refine wa_id ?_ | exact True.intro | omega))
        refine V_ret (evs ?_)
        first | (exfalso; omega) | exact dv0 hc | exact dw1z h1 h2 h3 h4 hc | exact dw2z h1 h2 h3 h4 ‹_› hc
      · refine WA_skip ?_
        refine WA_seq (x := (fcd Try.f65 [1, 1, 1, 1, 1, 1, 0])) (y := (fcd Try.f65 [1, 1, 1, 1, 1, 1, 1])) ?_
        refine V_regionX Γ Δ [] [0, 1, 4, 5, 6, 8, 14, 42] (evs ?_)
        all_goals (try with_reducible (repeat' (first | apply And.intro | intro _)))
        all_goals (try (first | with_reducible refine wa_id ?_ | exact True.intro | omega))
        refine V_ret (evs ?_)
        first | (exfalso; omega) | exact dv0 hc | exact dw1z h1 h2 h3 h4 hc | exact dw2z h1 h2 h3 h4 ‹_› hc

/-- imageeditor/num.Clamp -/
theorem clamp_fn (a b c : Int) : Eng.Fn Try.prog 76 [.i a, .i b, .i c] (.dat (.i (clampI a b c))) := by
  refine Eng.Fn.by (fn := Try.f76) 12 [.tmp 6] Try.func76 rfl Try.ntmps76 rfl (by simp) fun w0 G0 => ?_
  refine WA_seq (x := (fcd Try.f76 [0])) (y := (fcd Try.f76 [1])) ?_
  refine V_regionX Γ Δ [] [0, 1, 2, 6] (evs ?_)
  all_goals (try with_reducible (repeat' (first | apply And.intro | intro _)))
  all_goals (try (first | with_reducible refine wa_id ?_ | exact True.intro | omega))
  refine WA_seq (x := (fcd Try.f76 [1, 0])) (y := (fcd Try.f76 [1, 1])) ?_
  refine V_regionX Γ Δ [] [0, 1, 2, 6] (evs ?_)
  all_goals (try with_reducible (repeat' (first | apply And.intro | intro _)))
  all_goals (try (first | with_reducible refine wa_id ?_ | exact True.intro | omega))
  refine V_ret (evs ?_)
  rfl

/-- imageeditor/imageeditorref01.Clamp -/
theorem rclamp_fn (a b c : Int) : Eng.Fn Try.prog 73 [.i a, .i b, .i c] (.dat (.i (clampI a b c))) := by
  refine Eng.Fn.by (fn := Try.f73) 12 [.tmp 6] Try.func73 rfl Try.ntmps73 rfl (by simp) fun w0 G0 => ?_
  refine WA_seq (x := (fcd Try.f73 [0])) (y := (fcd Try.f73 [1])) ?_
  refine V_regionX Γ Δ [] [0, 1, 2, 6] (evs ?_)
  all_goals (try with_reducible (repeat' (first | apply And.intro | intro _)))
  all_goals (try (first | with_reducible refine wa_id ?_ | exact True.intro | omega))
  refine WA_seq (x := (fcd Try.f73 [1, 0])) (y := (fcd Try.f73 [1, 1])) ?_
  refine V_regionX Γ Δ [] [0, 1, 2, 6] (evs ?_)
  all_goals (try with_reducible (repeat' (first | apply And.intro | intro _)))
  all_goals (try (first | with_reducible refine wa_id ?_ | exact True.intro | omega))
  refine V_ret (evs ?_)
  rfl

/-- imageeditor/pixel.unit -/
theorem punit_fn (a : Int) : Eng.Fn Try.prog 74 [.i a] (.dat (.i (unitI a))) := by
  refine Eng.Fn.by (fn := Try.f74) 5 [.tmp 2] Try.func74 rfl Try.ntmps74 rfl (by simp) fun w0 G0 => ?_
  refine WA_seq (x := (fcd Try.f74 [0])) (y := (fcd Try.f74 [1])) ?_
  refine V_regionX Γ Δ [] [0, 2] (evs ?_)
  all_goals (try with_reducible (repeat' (first | apply And.intro | intro _)))
  all_goals (try (first | with_reducible refine wa_id ?_ | exact True.intro | omega))
  refine WA_seq (x := (fcd Try.f74 [1, 0])) (y := (fcd Try.f74 [1, 1])) ?_
  refine V_regionX Γ Δ [] [0, 2] (evs ?_)
  all_goals (try with_reducible (repeat' (first | apply And.intro | intro _)))
  all_goals (try (first | with_reducible refine wa_id ?_ | exact True.intro | exact clamp_fn _ _ _ | omega))
  refine V_ret (evs ?_)
  rfl

/-- imageeditor/imageeditorref06.U -/
theorem rpunit_fn (a : Int) : Eng.Fn Try.prog 62 [.i a] (.dat (.i (unitI a))) := by
  refine Eng.Fn.by (fn := Try.f62) 5 [.tmp 2] Try.func62 rfl Try.ntmps62 rfl (by simp) fun w0 G0 => ?_
  refine WA_seq (x := (fcd Try.f62 [0])) (y := (fcd Try.f62 [1])) ?_
  refine V_regionX Γ Δ [] [0, 2] (evs ?_)
  all_goals (try with_reducible (repeat' (first | apply And.intro | intro _)))
  all_goals (try (first | with_reducible refine wa_id ?_ | exact True.intro | omega))
  refine WA_seq (x := (fcd Try.f62 [1, 0])) (y := (fcd Try.f62 [1, 1])) ?_
  refine V_regionX Γ Δ [] [0, 2] (evs ?_)
  all_goals (try with_reducible (repeat' (first | apply And.intro | intro _)))
  all_goals (try (first | with_reducible refine wa_id ?_ | exact True.intro | exact rclamp_fn _ _ _ | omega))
  refine V_ret (evs ?_)
  rfl

/-- imageeditor/pixel.Limit -/
theorem plimit_fn (p : Px) : Eng.Fn Try.prog 63 [pxD p] (.dat (pxD (limP p))) := by
  refine Eng.Fn.by (fn := Try.f63) 16 [.cell 2 51] Try.func63 rfl Try.ntmps63 rfl (by simp) fun w0 G0 => ?_
  refine WA_seq (x := (fcd Try.f63 [0])) (y := (fcd Try.f63 [1])) ?_
  refine V_regionX Γ Δ [] [0, 1, 2] (evs ?_)
  all_goals (try with_reducible (repeat' (first | apply And.intro | intro _)))
  all_goals (try (first | with_reducible refine wa_id ?_ | exact True.intro | omega))
  refine WA_seq (x := (fcd Try.f63 [1, 0])) (y := (fcd Try.f63 [1, 1])) ?_
  refine V_draw Γ [] [0, 1, 2] mixed (by kernel_rfl) (evs ?_)
  all_goals (try with_reducible (repeat' (first | apply And.intro | intro _)))
  all_goals (try (first | with_reducible refine wa_id ?_ | exact True.intro | exact punit_fn _ | omega))
  refine V_ret (evs ?_)
  exact ⟨rfl, rfl, rfl, rfl⟩

/-- imageeditor/imageeditorref06.Limit -/
theorem rlimit_fn (p : Px) : Eng.Fn Try.prog 48 [pxD p] (.dat (pxD (limP p))) := by
  refine Eng.Fn.by (fn := Try.f48) 16 [.cell 2 51] Try.func48 rfl Try.ntmps48 rfl (by simp) fun w0 G0 => ?_
  refine WA_seq (x := (fcd Try.f48 [0])) (y := (fcd Try.f48 [1])) ?_
  refine V_regionX Γ Δ [] [0, 1, 2] (evs ?_)
  all_goals (try with_reducible (repeat' (first | apply And.intro | intro _)))
  all_goals (try (first | with_reducible refine wa_id ?_ | exact True.intro | omega))
  refine WA_seq (x := (fcd Try.f48 [1, 0])) (y := (fcd Try.f48 [1, 1])) ?_
  refine V_draw Γ [] [0, 1, 2] mixed (by kernel_rfl) (evs ?_)
  all_goals (try with_reducible (repeat' (first | apply And.intro | intro _)))
  all_goals (try (first | with_reducible refine wa_id ?_ | exact True.intro | exact rpunit_fn _ | omega))
  refine V_ret (evs ?_)
  exact ⟨rfl, rfl, rfl, rfl⟩

/-- imageeditor/pixel.Valid -/
theorem pvalid6_fn (p : Px) : Eng.Fn Try.prog 50 [pxD p] (.dat (.b (validP p))) := by
  refine Eng.Fn.by (fn := Try.f50) 7 [.tmp 2] Try.func50 rfl Try.ntmps50 rfl (by simp) fun w0 G0 => ?_
  refine WA_seq (x := (fcd Try.f50 [0])) (y := (fcd Try.f50 [1])) ?_
  refine V_regionX Γ Δ [] [0, 1, 2] (evs ?_)
  all_goals (try with_reducible (repeat' (first | apply And.intro | intro _)))
  all_goals (try (first | with_reducible refine wa_id ?_ | exact True.intro | omega))
  refine WA_seq (x := (fcd Try.f50 [1, 0])) (y := (fcd Try.f50 [1, 1])) ?_
  refine V_draw Γ [] [0, 1, 2] mixed (by kernel_rfl) (evs ?_)
  all_goals (try with_reducible (repeat' (first | apply And.intro | intro _)))
  all_goals (try (first | with_reducible refine wa_id ?_ | exact True.intro | exact plimit_fn _ | omega))
  refine V_ret (evs ?_)
  first | exact vp1 p | exact vp2 p

/-- imageeditor/imageeditorref06.Valid -/
theorem rvalid6_fn (p : Px) : Eng.Fn Try.prog 35 [pxD p] (.dat (.b (validP p))) := by
  refine Eng.Fn.by (fn := Try.f35) 7 [.tmp 2] Try.func35 rfl Try.ntmps35 rfl (by simp) fun w0 G0 => ?_
  refine WA_seq (x := (fcd Try.f35 [0])) (y := (fcd Try.f35 [1])) ?_
  refine V_regionX Γ Δ [] [0, 1, 2] (evs ?_)
  all_goals (try with_reducible (repeat' (first | apply And.intro | intro _)))
  all_goals (try (first | with_reducible refine wa_id ?_ | exact True.intro | omega))
  refine WA_seq (x := (fcd Try.f35 [1, 0])) (y := (fcd Try.f35 [1, 1])) ?_
  refine V_draw Γ [] [0, 1, 2] mixed (by kernel_rfl) (evs ?_)
  all_goals (try with_reducible (repeat' (first | apply And.intro | intro _)))
  all_goals (try (first | with_reducible refine wa_id ?_ | exact True.intro | exact rlimit_fn _ | omega))
  refine V_ret (evs ?_)
  first | exact vp1 p | exact vp2 p

end Go.S16

