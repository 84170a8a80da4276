import Derived.Test.YtgkflbibpkkegaaGreatDoorF35
set_option linter.unusedSimpArgs false
set_option linter.unusedVariables false
set_option linter.unusedSimpArgs false
set_option linter.unusedVariables false
namespace Go.S35
open Go.RowKit Go.Proofs Go.Eng Go.Rect
theorem clamp_fn (a b c : Int) : Eng.Fn Tryz.prog 24 [.i a, .i b, .i c] (.dat (.i (clampI a b c))) := by
  refine Eng.Fn.by (fn := Tryz.f24) 12 [.tmp 6] Tryz.func24 rfl Tryz.ntmps24 rfl (by simp) fun w0 G0 => ?_
  refine WA_seq (x := (fcd Tryz.f24 [0])) (y := (fcd Tryz.f24 [1])) ?_
  refine V_regionX Γ Δ [] [0, 1, 2, 6] (evs ?_)
  all_goals (try with_reducible (repeat' (first | apply And.intro | intro _)))
  all_goals (try (first | with_reducible refine wa_id ?_ | exact True.intro | omega))
  refine WA_seq (x := (fcd Tryz.f24 [1, 0])) (y := (fcd Tryz.f24 [1, 1])) ?_
  refine V_regionX Γ Δ [] [0, 1, 2, 6] (evs ?_)
  all_goals (try with_reducible (repeat' (first | apply And.intro | intro _)))
  all_goals (try (first | with_reducible refine wa_id ?_ | exact True.intro | omega))
  refine V_ret (evs ?_)
  rfl

theorem rclamp_fn (a b c : Int) : Eng.Fn Tryz.prog 25 [.i a, .i b, .i c] (.dat (.i (clampI a b c))) := by
  refine Eng.Fn.by (fn := Tryz.f25) 12 [.tmp 6] Tryz.func25 rfl Tryz.ntmps25 rfl (by simp) fun w0 G0 => ?_
  refine WA_seq (x := (fcd Tryz.f25 [0])) (y := (fcd Tryz.f25 [1])) ?_
  refine V_regionX Γ Δ [] [0, 1, 2, 6] (evs ?_)
  all_goals (try with_reducible (repeat' (first | apply And.intro | intro _)))
  all_goals (try (first | with_reducible refine wa_id ?_ | exact True.intro | omega))
  refine WA_seq (x := (fcd Tryz.f25 [1, 0])) (y := (fcd Tryz.f25 [1, 1])) ?_
  refine V_regionX Γ Δ [] [0, 1, 2, 6] (evs ?_)
  all_goals (try with_reducible (repeat' (first | apply And.intro | intro _)))
  all_goals (try (first | with_reducible refine wa_id ?_ | exact True.intro | omega))
  refine V_ret (evs ?_)
  rfl

theorem floor_fn (a b : Int) (h1 : -9223372036854775808 ≤ a) (h2 : a ≤ 9223372036854775807) : Eng.Fn Tryz.prog 87 [.i a, .i b] (.dat (.i (floorI a b))) := by
  refine Eng.Fn.by (fn := Tryz.f87) 31 [.tmp 4] Tryz.func87 rfl Tryz.ntmps87 rfl (by simp) fun w0 G0 => ?_
  refine WA_seq (x := (fcd Tryz.f87 [0])) (y := (fcd Tryz.f87 [1])) ?_
  refine V_regionX Γ Δ [] [0, 1, 4, 5, 7, 13, 27] (evs ?_)
  all_goals (try with_reducible (repeat' (first | apply And.intro | intro _)))
  all_goals (try (first | with_reducible refine wa_id ?_ | exact True.intro | omega))
  refine WA_seq (x := (fcd Tryz.f87 [1, 0])) (y := (fcd Tryz.f87 [1, 1])) ?_
  refine WA_seq (x := (fcd Tryz.f87 [1, 0, 0])) (y := (fcd Tryz.f87 [1, 0, 1])) ?_
  refine V_regionX Γ Δ [] [0, 1, 4, 5, 7, 13, 27] (evs ?_)
  all_goals (try with_reducible (repeat' (first | apply And.intro | intro _)))
  all_goals (try (first | with_reducible refine wa_id ?_ | exact True.intro | omega))
  refine V_cond (evs ?_)
  refine ⟨fun hc => ?_, fun hc => ?_⟩
  · refine WA_seq (x := (fcd Tryz.f87 [1, 0, 1, 0, 0])) (y := (fcd Tryz.f87 [1, 0, 1, 0, 1])) ?_
    refine V_regionX Γ Δ [] [0, 1, 4, 5, 7, 13, 27] (evs ?_)
    all_goals (try with_reducible (repeat' (first | apply And.intro | intro _)))
    all_goals (try (first | with_reducible refine wa_id ?_ | exact True.intro | omega))
    refine V_ret (evs ?_)
    first | exact fl1 hc | exact fl2 ‹_› hc | exact fl3 h1 h2 ‹_› ‹_› hc | exact fl4 h1 h2 ‹_› ‹_› hc
  · refine WA_skip ?_
    refine WA_seq (x := (fcd Tryz.f87 [1, 1, 0])) (y := (fcd Tryz.f87 [1, 1, 1])) ?_
    refine WA_seq (x := (fcd Tryz.f87 [1, 1, 0, 0])) (y := (fcd Tryz.f87 [1, 1, 0, 1])) ?_
    refine V_regionX Γ Δ [] [0, 1, 4, 5, 7, 13, 27] (evs ?_)
    all_goals (try with_reducible (repeat' (first | apply And.intro | intro _)))
    all_goals (try (first | with_reducible refine wa_id ?_ | exact True.intro | omega))
    refine V_cond (evs ?_)
    refine ⟨fun hc => ?_, fun hc => ?_⟩
    · refine WA_seq (x := (fcd Tryz.f87 [1, 1, 0, 1, 0, 0])) (y := (fcd Tryz.f87 [1, 1, 0, 1, 0, 1])) ?_
      refine V_regionX Γ Δ [] [0, 1, 4, 5, 7, 13, 27] (evs ?_)
      all_goals (try with_reducible (repeat' (first | apply And.intro | intro _)))
      all_goals (try (first | with_reducible refine wa_id ?_ | exact True.intro | omega))
      refine V_ret (evs ?_)
      first | exact fl1 hc | exact fl2 ‹_› hc | exact fl3 h1 h2 ‹_› ‹_› hc | exact fl4 h1 h2 ‹_› ‹_› hc
    · refine WA_skip ?_
      refine WA_seq (x := (fcd Tryz.f87 [1, 1, 1, 0])) (y := (fcd Tryz.f87 [1, 1, 1, 1])) ?_
      refine V_regionX Γ Δ [] [0, 1, 4, 5, 7, 13, 27] (evs ?_)
      all_goals (try with_reducible (repeat' (first | apply And.intro | intro _)))
      all_goals (try (first | with_reducible refine wa_id ?_ | exact True.intro | omega))
      refine WA_seq (x := (fcd Tryz.f87 [1, 1, 1, 1, 0])) (y := (fcd Tryz.f87 [1, 1, 1, 1, 1])) ?_
      refine WA_seq (x := (fcd Tryz.f87 [1, 1, 1, 1, 0, 0])) (y := (fcd Tryz.f87 [1, 1, 1, 1, 0, 1])) ?_
      refine V_regionX Γ Δ [] [0, 1, 4, 5, 7, 13, 27] (evs ?_)
      all_goals (try with_reducible (repeat' (first | apply And.intro | intro _)))
      all_goals (try (first | with_reducible refine wa_id ?_ | exact True.intro | omega))
      refine V_cond (evs ?_)
      refine ⟨fun hc => ?_, fun hc => ?_⟩
      · refine V_regionX Γ Δ [] [0, 1, 4, 5, 7, 13, 27] (evs ?_)
        all_goals (try with_reducible (repeat' (first | apply And.intro | intro _)))
        all_goals (try (first | with_reducible refine wa_id ?_ | exact True.intro | omega))
        refine WA_seq (x := (fcd Tryz.f87 [1, 1, 1, 1, 1, 0])) (y := (fcd Tryz.f87 [1, 1, 1, 1, 1, 1])) ?_
        refine V_regionX Γ Δ [] [0, 1, 4, 5, 7, 13, 27] (evs ?_)
        all_goals (try with_reducible (repeat' (first | apply And.intro | intro _)))
        all_goals (try (first | with_reducible refine wa_id ?_ | exact True.intro | omega))
        refine V_ret (evs ?_)
        first | exact fl1 hc | exact fl2 ‹_› hc | exact fl3 h1 h2 ‹_› ‹_› hc | exact fl4 h1 h2 ‹_› ‹_› hc
      · refine WA_skip ?_
        refine WA_seq (x := (fcd Tryz.f87 [1, 1, 1, 1, 1, 0])) (y := (fcd Tryz.f87 [1, 1, 1, 1, 1, 1])) ?_
        refine V_regionX Γ Δ [] [0, 1, 4, 5, 7, 13, 27] (evs ?_)
        all_goals (try with_reducible (repeat' (first | apply And.intro | intro _)))
        all_goals (try (first | with_reducible refine wa_id ?_ | exact True.intro | omega))
        refine V_ret (evs ?_)
        first | exact fl1 hc | exact fl2 ‹_› hc | exact fl3 h1 h2 ‹_› ‹_› hc | exact fl4 h1 h2 ‹_› ‹_› hc

theorem rfloor_fn (a b : Int) (h1 : -9223372036854775808 ≤ a) (h2 : a ≤ 9223372036854775807) : Eng.Fn Tryz.prog 68 [.i a, .i b] (.dat (.i (floorI a b))) := by
  refine Eng.Fn.by (fn := Tryz.f68) 33 [.tmp 4] Tryz.func68 rfl Tryz.ntmps68 rfl (by simp) fun w0 G0 => ?_
  refine WA_seq (x := (fcd Tryz.f68 [0])) (y := (fcd Tryz.f68 [1])) ?_
  refine V_regionX Γ Δ [] [0, 1, 4, 5, 6, 8, 14, 29] (evs ?_)
  all_goals (try with_reducible (repeat' (first | apply And.intro | intro _)))
  all_goals (try (first | with_reducible refine wa_id ?_ | exact True.intro | omega))
  refine WA_seq (x := (fcd Tryz.f68 [1, 0])) (y := (fcd Tryz.f68 [1, 1])) ?_
  refine WA_seq (x := (fcd Tryz.f68 [1, 0, 0])) (y := (fcd Tryz.f68 [1, 0, 1])) ?_
  refine V_regionX Γ Δ [] [0, 1, 4, 5, 6, 8, 14, 29] (evs ?_)
  all_goals (try with_reducible (repeat' (first | apply And.intro | intro _)))
  all_goals (try (first | with_reducible refine wa_id ?_ | exact True.intro | omega))
  refine V_cond (evs ?_)
  refine ⟨fun hc => ?_, fun hc => ?_⟩
  · refine WA_seq (x := (fcd Tryz.f68 [1, 0, 1, 0, 0])) (y := (fcd Tryz.f68 [1, 0, 1, 0, 1])) ?_
    refine V_regionX Γ Δ [] [0, 1, 4, 5, 6, 8, 14, 29] (evs ?_)
    all_goals (try with_reducible (repeat' (first | apply And.intro | intro _)))
    all_goals (try (first | with_reducible refine wa_id ?_ | exact True.intro | omega))
    refine V_ret (evs ?_)
    first | exact fl1 hc | exact fl2 ‹_› hc | exact fl5 h1 h2 ‹_› ‹_› hc | exact fl6 h1 h2 ‹_› ‹_› hc
  · refine WA_skip ?_
    refine WA_seq (x := (fcd Tryz.f68 [1, 1, 0])) (y := (fcd Tryz.f68 [1, 1, 1])) ?_
    refine WA_seq (x := (fcd Tryz.f68 [1, 1, 0, 0])) (y := (fcd Tryz.f68 [1, 1, 0, 1])) ?_
    refine V_regionX Γ Δ [] [0, 1, 4, 5, 6, 8, 14, 29] (evs ?_)
    all_goals (try with_reducible (repeat' (first | apply And.intro | intro _)))
    all_goals (try (first | with_reducible refine wa_id ?_ | exact True.intro | omega))
    refine V_cond (evs ?_)
    refine ⟨fun hc => ?_, fun hc => ?_⟩
    · refine WA_seq (x := (fcd Tryz.f68 [1, 1, 0, 1, 0, 0])) (y := (fcd Tryz.f68 [1, 1, 0, 1, 0, 1])) ?_
      refine V_regionX Γ Δ [] [0, 1, 4, 5, 6, 8, 14, 29] (evs ?_)
      all_goals (try with_reducible (repeat' (first | apply And.intro | intro _)))
      all_goals (try (first | with_reducible refine wa_id ?_ | exact True.intro | omega))
      refine V_ret (evs ?_)
      first | exact fl1 hc | exact fl2 ‹_› hc | exact fl5 h1 h2 ‹_› ‹_› hc | exact fl6 h1 h2 ‹_› ‹_› hc
    · refine WA_skip ?_
      refine WA_seq (x := (fcd Tryz.f68 [1, 1, 1, 0])) (y := (fcd Tryz.f68 [1, 1, 1, 1])) ?_
      refine V_draw Γ [] [0, 1, 4, 5, 6, 8, 14, 29] mixed (by kernel_rfl) (evs ?_)
      all_goals (try with_reducible (repeat' (first | apply And.intro | intro _)))
      all_goals (try (first | with_reducible refine wa_id ?_ | exact True.intro | omega))
      refine WA_seq (x := (fcd Tryz.f68 [1, 1, 1, 1, 0])) (y := (fcd Tryz.f68 [1, 1, 1, 1, 1])) ?_
      refine WA_seq (x := (fcd Tryz.f68 [1, 1, 1, 1, 0, 0])) (y := (fcd Tryz.f68 [1, 1, 1, 1, 0, 1])) ?_
      refine V_regionX Γ Δ [] [0, 1, 4, 5, 6, 8, 14, 29] (evs ?_)
      all_goals (try with_reducible (repeat' (first | apply And.intro | intro _)))
      all_goals (try (first | with_reducible refine wa_id ?_ | exact True.intro | omega))
      refine V_cond (evs ?_)
      refine ⟨fun hc => ?_, fun hc => ?_⟩
      · refine WA_seq (x := (fcd Tryz.f68 [1, 1, 1, 1, 0, 1, 0, 0])) (y := (fcd Tryz.f68 [1, 1, 1, 1, 0, 1, 0, 1])) ?_
        refine V_regionX Γ Δ [] [0, 1, 4, 5, 6, 8, 14, 29] (evs ?_)
        all_goals (try with_reducible (repeat' (first | apply And.intro | intro _)))
        all_goals (try (first | with_reducible refine wa_id ?_ | exact True.intro | omega))
        refine V_ret (evs ?_)
        first | exact fl1 hc | exact fl2 ‹_› hc | exact fl5 h1 h2 ‹_› ‹_› hc | exact fl6 h1 h2 ‹_› ‹_› hc
      · refine WA_skip ?_
        refine WA_seq (x := (fcd Tryz.f68 [1, 1, 1, 1, 1, 0])) (y := (fcd Tryz.f68 [1, 1, 1, 1, 1, 1])) ?_
        refine V_regionX Γ Δ [] [0, 1, 4, 5, 6, 8, 14, 29] (evs ?_)
        all_goals (try with_reducible (repeat' (first | apply And.intro | intro _)))
        all_goals (try (first | with_reducible refine wa_id ?_ | exact True.intro | omega))
        refine V_ret (evs ?_)
        first | exact fl1 hc | exact fl2 ‹_› hc | exact fl5 h1 h2 ‹_› ‹_› hc | exact fl6 h1 h2 ‹_› ‹_› hc

set_option maxRecDepth 100000 in
theorem divw_fn (a b : Int) (h1 : -2305843009213693952 ≤ a) (h2 : a ≤ 2305843009213693952) (h3 : 0 ≤ b) (h4 : b ≤ 70368744177664) : Eng.Fn Tryz.prog 66 [.i a, .i b] (.dat (.i (divI a b))) := by
  refine Eng.Fn.by (fn := Tryz.f66) 46 [.tmp 4] Tryz.func66 rfl Tryz.ntmps66 rfl (by simp) fun w0 G0 => ?_
  refine WA_seq (x := (fcd Tryz.f66 [0])) (y := (fcd Tryz.f66 [1])) ?_
  refine V_regionX Γ Δ [] [0, 1, 4, 5, 6, 8, 14, 42] (evs ?_)
  all_goals (try with_reducible (repeat' (first | apply And.intro | intro _)))
  all_goals (try (first | with_reducible refine wa_id ?_ | exact True.intro | omega))
  refine WA_seq (x := (fcd Tryz.f66 [1, 0])) (y := (fcd Tryz.f66 [1, 1])) ?_
  refine WA_seq (x := (fcd Tryz.f66 [1, 0, 0])) (y := (fcd Tryz.f66 [1, 0, 1])) ?_
  refine V_regionX Γ Δ [] [0, 1, 4, 5, 6, 8, 14, 42] (evs ?_)
  all_goals (try with_reducible (repeat' (first | apply And.intro | intro _)))
  all_goals (try (first | with_reducible refine wa_id ?_ | exact True.intro | omega))
  refine V_cond (evs ?_)
  refine ⟨fun hc => ?_, fun hc => ?_⟩
  · refine WA_seq (x := (fcd Tryz.f66 [1, 0, 1, 0, 0])) (y := (fcd Tryz.f66 [1, 0, 1, 0, 1])) ?_
    refine V_regionX Γ Δ [] [0, 1, 4, 5, 6, 8, 14, 42] (evs ?_)
    all_goals (try with_reducible (repeat' (first | apply And.intro | intro _)))
    all_goals (try (first | with_reducible refine wa_id ?_ | exact True.intro | omega))
    refine V_ret (evs ?_)
    first | (exfalso; omega) | exact dv0 hc | exact dw1z h1 h2 h3 h4 hc | exact dw2z h1 h2 h3 h4 ‹_› hc
  · refine WA_skip ?_
    refine WA_seq (x := (fcd Tryz.f66 [1, 1, 0])) (y := (fcd Tryz.f66 [1, 1, 1])) ?_
    refine WA_seq (x := (fcd Tryz.f66 [1, 1, 0, 0])) (y := (fcd Tryz.f66 [1, 1, 0, 1])) ?_
    refine V_regionX Γ Δ [] [0, 1, 4, 5, 6, 8, 14, 42] (evs ?_)
    all_goals (try with_reducible (repeat' (first | apply And.intro | intro _)))
    all_goals (try (first | with_reducible refine wa_id ?_ | exact True.intro | omega))
    refine V_cond (evs ?_)
    refine ⟨fun hc => ?_, fun hc => ?_⟩
    · refine WA_seq (x := (fcd Tryz.f66 [1, 1, 0, 1, 0, 0])) (y := (fcd Tryz.f66 [1, 1, 0, 1, 0, 1])) ?_
      refine V_regionX Γ Δ [] [0, 1, 4, 5, 6, 8, 14, 42] (evs ?_)
      all_goals (try with_reducible (repeat' (first | apply And.intro | intro _)))
      all_goals (try (first | with_reducible refine wa_id ?_ | exact True.intro | omega))
      refine V_ret (evs ?_)
      first | (exfalso; omega) | exact dv0 hc | exact dw1z h1 h2 h3 h4 hc | exact dw2z h1 h2 h3 h4 ‹_› hc
    · refine WA_skip ?_
      refine WA_seq (x := (fcd Tryz.f66 [1, 1, 1, 0])) (y := (fcd Tryz.f66 [1, 1, 1, 1])) ?_
      refine V_regionX Γ Δ [] [0, 1, 4, 5, 6, 8, 14, 42] (evs ?_)
      all_goals (try with_reducible (repeat' (first | apply And.intro | intro _)))
      all_goals (try (first | with_reducible refine wa_id ?_ | exact True.intro | exact floor_fn _ _ (by omega) (by omega) | omega))
      refine WA_seq (x := (fcd Tryz.f66 [1, 1, 1, 1, 0])) (y := (fcd Tryz.f66 [1, 1, 1, 1, 1])) ?_
      refine V_regionX Γ Δ [] [0, 1, 4, 5, 6, 8, 14, 42] (evs ?_)
      all_goals (try with_reducible (repeat' (first | apply And.intro | intro _)))
      all_goals (try (first | with_reducible refine wa_id ?_ | exact True.intro | omega))
      refine WA_seq (x := (fcd Tryz.f66 [1, 1, 1, 1, 1, 0])) (y := (fcd Tryz.f66 [1, 1, 1, 1, 1, 1])) ?_
      refine WA_seq (x := (fcd Tryz.f66 [1, 1, 1, 1, 1, 0, 0])) (y := (fcd Tryz.f66 [1, 1, 1, 1, 1, 0, 1])) ?_
      refine V_regionX Γ Δ [] [0, 1, 4, 5, 6, 8, 14, 42] (evs ?_)
      all_goals (try with_reducible (repeat' (first | apply And.intro | intro _)))
      all_goals (try (first | with_reducible refine wa_id ?_ | exact True.intro | omega))
      refine V_cond (evs ?_)
      refine ⟨fun hc => ?_, fun hc => ?_⟩
      · refine V_regionX Γ Δ [] [0, 1, 4, 5, 6, 8, 14, 42] (evs ?_)
        all_goals (try with_reducible (repeat' (first | apply And.intro | intro _)))
        all_goals (try (first | with_reducible refine wa_id ?_ | exact True.intro | omega))
        refine WA_seq (x := (fcd Tryz.f66 [1, 1, 1, 1, 1, 1, 0])) (y := (fcd Tryz.f66 [1, 1, 1, 1, 1, 1, 1])) ?_
        refine V_regionX Γ Δ [] [0, 1, 4, 5, 6, 8, 14, 42] (evs ?_)
        all_goals (try with_reducible (repeat' (first | apply And.intro | intro _)))
        all_goals (try (first | with_reducible refine wa_id ?_ | exact True.intro | omega))
        refine V_ret (evs ?_)
        first | (exfalso; omega) | exact dv0 hc | exact dw1z h1 h2 h3 h4 hc | exact dw2z h1 h2 h3 h4 ‹_› hc
      · refine WA_skip ?_
        refine WA_seq (x := (fcd Tryz.f66 [1, 1, 1, 1, 1, 1, 0])) (y := (fcd Tryz.f66 [1, 1, 1, 1, 1, 1, 1])) ?_
        refine V_regionX Γ Δ [] [0, 1, 4, 5, 6, 8, 14, 42] (evs ?_)
        all_goals (try with_reducible (repeat' (first | apply And.intro | intro _)))
        all_goals (try (first | with_reducible refine wa_id ?_ | exact True.intro | omega))
        refine V_ret (evs ?_)
        first | (exfalso; omega) | exact dv0 hc | exact dw1z h1 h2 h3 h4 hc | exact dw2z h1 h2 h3 h4 ‹_› hc

theorem rabs_fn (a : Int) (h1 : -9223372036854775808 < a) (h2 : a ≤ 9223372036854775807) : Eng.Fn Tryz.prog 69 [.i a] (.dat (.v (.int .u64 (absU a)))) := by
  refine Eng.Fn.by (fn := Tryz.f69) 10 [.tmp 2] Tryz.func69 rfl Tryz.ntmps69 rfl (by simp) fun w0 G0 => ?_
  refine WA_seq (x := (fcd Tryz.f69 [0])) (y := (fcd Tryz.f69 [1])) ?_
  refine V_regionX Γ Δ [] [0, 2, 4] (evs ?_)
  all_goals (try with_reducible (repeat' (first | apply And.intro | intro _)))
  all_goals (try (first | with_reducible refine wa_id ?_ | exact True.intro | omega))
  refine WA_seq (x := (fcd Tryz.f69 [1, 0])) (y := (fcd Tryz.f69 [1, 1])) ?_
  refine WA_seq (x := (fcd Tryz.f69 [1, 0, 0])) (y := (fcd Tryz.f69 [1, 0, 1])) ?_
  refine V_regionX Γ Δ [] [0, 2, 4] (evs ?_)
  all_goals (try with_reducible (repeat' (first | apply And.intro | intro _)))
  all_goals (try (first | with_reducible refine wa_id ?_ | exact True.intro | omega))
  refine V_cond (evs ?_)
  refine ⟨fun hc => ?_, fun hc => ?_⟩
  · refine WA_seq (x := (fcd Tryz.f69 [1, 0, 1, 0, 0])) (y := (fcd Tryz.f69 [1, 0, 1, 0, 1])) ?_
    refine V_regionX Γ Δ [] [0, 2, 4] (evs ?_)
    all_goals (try with_reducible (repeat' (first | apply And.intro | intro _)))
    all_goals (try (first | with_reducible refine wa_id ?_ | exact True.intro | omega))
    refine V_ret (evs ?_)
    first | exact ab1 h1 hc | exact ab2 h2 hc
  · refine WA_skip ?_
    refine WA_seq (x := (fcd Tryz.f69 [1, 1, 0])) (y := (fcd Tryz.f69 [1, 1, 1])) ?_
    refine V_regionX Γ Δ [] [0, 2, 4] (evs ?_)
    all_goals (try with_reducible (repeat' (first | apply And.intro | intro _)))
    all_goals (try (first | with_reducible refine wa_id ?_ | exact True.intro | omega))
    refine V_ret (evs ?_)
    first | exact ab1 h1 hc | exact ab2 h2 hc

theorem rdivw_fn (a b : Int) (h1 : -2305843009213693952 ≤ a) (h2 : a ≤ 2305843009213693952) (h3 : 0 ≤ b) (h4 : b ≤ 70368744177664) : Eng.Fn Tryz.prog 55 [.i a, .i b] (.dat (.i (divI a b))) := by
  refine Eng.Fn.by (fn := Tryz.f55) 34 [.tmp 4] Tryz.func55 rfl Tryz.ntmps55 rfl (by simp) fun w0 G0 => ?_
  refine WA_seq (x := (fcd Tryz.f55 [0])) (y := (fcd Tryz.f55 [1])) ?_
  refine V_regionX Γ Δ [] [0, 1, 4, 5, 6, 8, 17, 30] (evs ?_)
  all_goals (try with_reducible (repeat' (first | apply And.intro | intro _)))
  all_goals (try (first | with_reducible refine wa_id ?_ | exact True.intro | omega))
  refine WA_seq (x := (fcd Tryz.f55 [1, 0])) (y := (fcd Tryz.f55 [1, 1])) ?_
  refine WA_seq (x := (fcd Tryz.f55 [1, 0, 0])) (y := (fcd Tryz.f55 [1, 0, 1])) ?_
  refine V_regionX Γ Δ [] [0, 1, 4, 5, 6, 8, 17, 30] (evs ?_)
  all_goals (try with_reducible (repeat' (first | apply And.intro | intro _)))
  all_goals (try (first | with_reducible refine wa_id ?_ | exact True.intro | omega))
  refine V_cond (evs ?_)
  refine ⟨fun hc => ?_, fun hc => ?_⟩
  · refine WA_seq (x := (fcd Tryz.f55 [1, 0, 1, 0, 0])) (y := (fcd Tryz.f55 [1, 0, 1, 0, 1])) ?_
    refine V_regionX Γ Δ [] [0, 1, 4, 5, 6, 8, 17, 30] (evs ?_)
    all_goals (try with_reducible (repeat' (first | apply And.intro | intro _)))
    all_goals (try (first | with_reducible refine wa_id ?_ | exact True.intro | omega))
    refine V_ret (evs ?_)
    first | exact dv0 hc | exact dv3w h3 hb h4 q hc | exact dv4w h3 hb h4 q hc | (exfalso; omega)
  · refine WA_skip ?_
    refine WA_seq (x := (fcd Tryz.f55 [1, 1, 0])) (y := (fcd Tryz.f55 [1, 1, 1])) ?_
    refine V_regionX Γ Δ [] [0, 1, 4, 5, 6, 8, 17, 30] (evs ?_)
    have hb := hc
    all_goals (try with_reducible (repeat' (first | apply And.intro | intro _)))
    all_goals (try (first | with_reducible refine wa_id ?_ | exact True.intro | exact rfloor_fn _ _ (by omega) (by omega) | omega))
    simp only [floor_pos (show 0 < b by omega)]
    have q := quW h1 h2 (show 0 < b by omega) h4
    refine WA_seq (x := (fcd Tryz.f55 [1, 1, 1, 0])) (y := (fcd Tryz.f55 [1, 1, 1, 1])) ?_
    refine WA_seq (x := (fcd Tryz.f55 [1, 1, 1, 0, 0])) (y := (fcd Tryz.f55 [1, 1, 1, 0, 1])) ?_
    refine V_regionX Γ Δ [] [0, 1, 4, 5, 6, 8, 17, 30] (evs ?_)
    all_goals (try with_reducible (repeat' (first | apply And.intro | intro _)))
    all_goals (try (first | with_reducible refine wa_id ?_ | exact True.intro | omega))
    refine V_cond (evs ?_)
    refine ⟨fun hc => ?_, fun hc => ?_⟩
    · refine WA_seq (x := (fcd Tryz.f55 [1, 1, 1, 0, 1, 0, 0])) (y := (fcd Tryz.f55 [1, 1, 1, 0, 1, 0, 1])) ?_
      refine V_regionX Γ Δ [] [0, 1, 4, 5, 6, 8, 17, 30] (evs ?_)
      all_goals (try with_reducible (repeat' (first | apply And.intro | intro _)))
      all_goals (try (first | with_reducible refine wa_id ?_ | exact True.intro | omega))
      refine V_ret (evs ?_)
      first | exact dv0 hc | exact dv3w h3 hb h4 q hc | exact dv4w h3 hb h4 q hc | (exfalso; omega)
    · refine WA_skip ?_
      refine WA_seq (x := (fcd Tryz.f55 [1, 1, 1, 1, 0])) (y := (fcd Tryz.f55 [1, 1, 1, 1, 1])) ?_
      refine V_regionX Γ Δ [] [0, 1, 4, 5, 6, 8, 17, 30] (evs ?_)
      (try simp (disch := omega) only [w64])
      all_goals (try with_reducible (repeat' (first | apply And.intro | intro _)))
      all_goals (try (first | with_reducible refine wa_id ?_ | exact True.intro | exact rabs_fn _ (by omega) (by omega) | omega))
      refine WA_seq (x := (fcd Tryz.f55 [1, 1, 1, 1, 1, 0])) (y := (fcd Tryz.f55 [1, 1, 1, 1, 1, 1])) ?_
      refine WA_seq (x := (fcd Tryz.f55 [1, 1, 1, 1, 1, 0, 0])) (y := (fcd Tryz.f55 [1, 1, 1, 1, 1, 0, 1])) ?_
      refine V_regionX Γ Δ [] [0, 1, 4, 5, 6, 8, 17, 30] (evs ?_)
      all_goals (try with_reducible (repeat' (first | apply And.intro | intro _)))
      all_goals (try (first | with_reducible refine wa_id ?_ | exact True.intro | exact rabs_fn _ (by omega) (by omega) | omega))
      refine V_cond (evs ?_)
      refine ⟨fun hc => ?_, fun hc => ?_⟩
      · refine WA_seq (x := (fcd Tryz.f55 [1, 1, 1, 1, 1, 0, 1, 0, 0])) (y := (fcd Tryz.f55 [1, 1, 1, 1, 1, 0, 1, 0, 1])) ?_
        refine V_regionX Γ Δ [] [0, 1, 4, 5, 6, 8, 17, 30] (evs ?_)
        all_goals (try with_reducible (repeat' (first | apply And.intro | intro _)))
        all_goals (try (first | with_reducible refine wa_id ?_ | exact True.intro | omega))
        refine V_ret (evs ?_)
        first | exact dv0 hc | exact dv3w h3 hb h4 q hc | exact dv4w h3 hb h4 q hc | (exfalso; omega)
      · refine WA_skip ?_
        refine WA_seq (x := (fcd Tryz.f55 [1, 1, 1, 1, 1, 1, 0])) (y := (fcd Tryz.f55 [1, 1, 1, 1, 1, 1, 1])) ?_
        refine V_regionX Γ Δ [] [0, 1, 4, 5, 6, 8, 17, 30] (evs ?_)
        all_goals (try with_reducible (repeat' (first | apply And.intro | intro _)))
        all_goals (try (first | with_reducible refine wa_id ?_ | exact True.intro | omega))
        refine V_ret (evs ?_)
        first | exact dv0 hc | exact dv3w h3 hb h4 q hc | exact dv4w h3 hb h4 q hc | (exfalso; omega)

end Go.S35

