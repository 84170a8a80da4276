import Derived.Test.YtgfebadcjjifdaaF20
import Derived.Test.YtgfebadcjjifdaaLB
namespace Go.S20
open Go.RowKit Go.Proofs Go.Eng Go.Rect
/-- imageeditor/num.Floor -/
theorem floor_fn (a b : Int) (h1 : -9223372036854775808 ≤ a) (h2 : a ≤ 9223372036854775807) : Eng.Fn Try.prog 32 [.i a, .i b] (.dat (.i (floorI a b))) := by
  refine Eng.Fn.by (fn := Try.f32) 31 [.tmp 4] Try.func32 rfl Try.ntmps32 rfl (by simp) fun w0 => ?_
  refine WA_seq (x := (fcd Try.f32 [0])) (y := (fcd Try.f32 [1])) ?_
  refine V_regionX Γ Δ [] [0, 1, 4, 5, 7, 13, 27] (evs ?_)
  all_goals (try with_reducible (repeat' (first | apply And.intro | intro _)))
  all_goals (try (first | with_reducible refine wa_id ?_ | exact True.intro | omega))
  refine WA_seq (x := (fcd Try.f32 [1, 0])) (y := (fcd Try.f32 [1, 1])) ?_
  refine WA_seq (x := (fcd Try.f32 [1, 0, 0])) (y := (fcd Try.f32 [1, 0, 1])) ?_
  refine V_regionX Γ Δ [] [0, 1, 4, 5, 7, 13, 27] (evs ?_)
  all_goals (try with_reducible (repeat' (first | apply And.intro | intro _)))
  all_goals (try (first | with_reducible refine wa_id ?_ | exact True.intro | omega))
  refine V_cond (evs ?_)
  refine ⟨fun hc => ?_, fun hc => ?_⟩
  · refine WA_seq (x := (fcd Try.f32 [1, 0, 1, 0, 0])) (y := (fcd Try.f32 [1, 0, 1, 0, 1])) ?_
    refine V_regionX Γ Δ [] [0, 1, 4, 5, 7, 13, 27] (evs ?_)
    all_goals (try with_reducible (repeat' (first | apply And.intro | intro _)))
    all_goals (try (first | with_reducible refine wa_id ?_ | exact True.intro | omega))
    refine V_ret (evs ?_)
    first | exact fl1 hc | exact fl2 ‹_› hc | exact fl3 h1 h2 ‹_› ‹_› hc | exact fl4 h1 h2 ‹_› ‹_› hc
  · refine WA_skip ?_
    refine WA_seq (x := (fcd Try.f32 [1, 1, 0])) (y := (fcd Try.f32 [1, 1, 1])) ?_
    refine WA_seq (x := (fcd Try.f32 [1, 1, 0, 0])) (y := (fcd Try.f32 [1, 1, 0, 1])) ?_
    refine V_regionX Γ Δ [] [0, 1, 4, 5, 7, 13, 27] (evs ?_)
    all_goals (try with_reducible (repeat' (first | apply And.intro | intro _)))
    all_goals (try (first | with_reducible refine wa_id ?_ | exact True.intro | omega))
    refine V_cond (evs ?_)
    refine ⟨fun hc => ?_, fun hc => ?_⟩
    · refine WA_seq (x := (fcd Try.f32 [1, 1, 0, 1, 0, 0])) (y := (fcd Try.f32 [1, 1, 0, 1, 0, 1])) ?_
      refine V_regionX Γ Δ [] [0, 1, 4, 5, 7, 13, 27] (evs ?_)
      all_goals (try with_reducible (repeat' (first | apply And.intro | intro _)))
      all_goals (try (first | with_reducible refine wa_id ?_ | exact True.intro | omega))
      refine V_ret (evs ?_)
      first | exact fl1 hc | exact fl2 ‹_› hc | exact fl3 h1 h2 ‹_› ‹_› hc | exact fl4 h1 h2 ‹_› ‹_› hc
    · refine WA_skip ?_
      refine WA_seq (x := (fcd Try.f32 [1, 1, 1, 0])) (y := (fcd Try.f32 [1, 1, 1, 1])) ?_
      refine V_regionX Γ Δ [] [0, 1, 4, 5, 7, 13, 27] (evs ?_)
      all_goals (try with_reducible (repeat' (first | apply And.intro | intro _)))
      all_goals (try (first | with_reducible refine wa_id ?_ | exact True.intro | omega))
      refine WA_seq (x := (fcd Try.f32 [1, 1, 1, 1, 0])) (y := (fcd Try.f32 [1, 1, 1, 1, 1])) ?_
      refine WA_seq (x := (fcd Try.f32 [1, 1, 1, 1, 0, 0])) (y := (fcd Try.f32 [1, 1, 1, 1, 0, 1])) ?_
      refine V_regionX Γ Δ [] [0, 1, 4, 5, 7, 13, 27] (evs ?_)
      all_goals (try with_reducible (repeat' (first | apply And.intro | intro _)))
      all_goals (try (first | with_reducible refine wa_id ?_ | exact True.intro | omega))
      refine V_cond (evs ?_)
      refine ⟨fun hc => ?_, fun hc => ?_⟩
      · refine V_regionX Γ Δ [] [0, 1, 4, 5, 7, 13, 27] (evs ?_)
        all_goals (try with_reducible (repeat' (first | apply And.intro | intro _)))
        all_goals (try (first | with_reducible refine wa_id ?_ | exact True.intro | omega))
        refine WA_seq (x := (fcd Try.f32 [1, 1, 1, 1, 1, 0])) (y := (fcd Try.f32 [1, 1, 1, 1, 1, 1])) ?_
        refine V_regionX Γ Δ [] [0, 1, 4, 5, 7, 13, 27] (evs ?_)
        all_goals (try with_reducible (repeat' (first | apply And.intro | intro _)))
        all_goals (try (first | with_reducible refine wa_id ?_ | exact True.intro | omega))
        refine V_ret (evs ?_)
        first | exact fl1 hc | exact fl2 ‹_› hc | exact fl3 h1 h2 ‹_› ‹_› hc | exact fl4 h1 h2 ‹_› ‹_› hc
      · refine WA_skip ?_
        refine WA_seq (x := (fcd Try.f32 [1, 1, 1, 1, 1, 0])) (y := (fcd Try.f32 [1, 1, 1, 1, 1, 1])) ?_
        refine V_regionX Γ Δ [] [0, 1, 4, 5, 7, 13, 27] (evs ?_)
        all_goals (try with_reducible (repeat' (first | apply And.intro | intro _)))
        all_goals (try (first | with_reducible refine wa_id ?_ | exact True.intro | omega))
        refine V_ret (evs ?_)
        first | exact fl1 hc | exact fl2 ‹_› hc | exact fl3 h1 h2 ‹_› ‹_› hc | exact fl4 h1 h2 ‹_› ‹_› hc

/-- imageeditor/imageeditorref01.Floor -/
theorem rfloor_fn (a b : Int) (h1 : -9223372036854775808 ≤ a) (h2 : a ≤ 9223372036854775807) : Eng.Fn Try.prog 33 [.i a, .i b] (.dat (.i (floorI a b))) := by
  refine Eng.Fn.by (fn := Try.f33) 33 [.tmp 4] Try.func33 rfl Try.ntmps33 rfl (by simp) fun w0 => ?_
  refine WA_seq (x := (fcd Try.f33 [0])) (y := (fcd Try.f33 [1])) ?_
  refine V_regionX Γ Δ [] [0, 1, 4, 5, 6, 8, 14, 29] (evs ?_)
  all_goals (try with_reducible (repeat' (first | apply And.intro | intro _)))
  all_goals (try (first | with_reducible refine wa_id ?_ | exact True.intro | omega))
  refine WA_seq (x := (fcd Try.f33 [1, 0])) (y := (fcd Try.f33 [1, 1])) ?_
  refine WA_seq (x := (fcd Try.f33 [1, 0, 0])) (y := (fcd Try.f33 [1, 0, 1])) ?_
  refine V_regionX Γ Δ [] [0, 1, 4, 5, 6, 8, 14, 29] (evs ?_)
  all_goals (try with_reducible (repeat' (first | apply And.intro | intro _)))
  all_goals (try (first | with_reducible refine wa_id ?_ | exact True.intro | omega))
  refine V_cond (evs ?_)
  refine ⟨fun hc => ?_, fun hc => ?_⟩
  · refine WA_seq (x := (fcd Try.f33 [1, 0, 1, 0, 0])) (y := (fcd Try.f33 [1, 0, 1, 0, 1])) ?_
    refine V_regionX Γ Δ [] [0, 1, 4, 5, 6, 8, 14, 29] (evs ?_)
    all_goals (try with_reducible (repeat' (first | apply And.intro | intro _)))
    all_goals (try (first | with_reducible refine wa_id ?_ | exact True.intro | omega))
    refine V_ret (evs ?_)
    first | exact fl1 hc | exact fl2 ‹_› hc | exact fl5 h1 h2 ‹_› ‹_› hc | exact fl6 h1 h2 ‹_› ‹_› hc
  · refine WA_skip ?_
    refine WA_seq (x := (fcd Try.f33 [1, 1, 0])) (y := (fcd Try.f33 [1, 1, 1])) ?_
    refine WA_seq (x := (fcd Try.f33 [1, 1, 0, 0])) (y := (fcd Try.f33 [1, 1, 0, 1])) ?_
    refine V_regionX Γ Δ [] [0, 1, 4, 5, 6, 8, 14, 29] (evs ?_)
    all_goals (try with_reducible (repeat' (first | apply And.intro | intro _)))
    all_goals (try (first | with_reducible refine wa_id ?_ | exact True.intro | omega))
    refine V_cond (evs ?_)
    refine ⟨fun hc => ?_, fun hc => ?_⟩
    · refine WA_seq (x := (fcd Try.f33 [1, 1, 0, 1, 0, 0])) (y := (fcd Try.f33 [1, 1, 0, 1, 0, 1])) ?_
      refine V_regionX Γ Δ [] [0, 1, 4, 5, 6, 8, 14, 29] (evs ?_)
      all_goals (try with_reducible (repeat' (first | apply And.intro | intro _)))
      all_goals (try (first | with_reducible refine wa_id ?_ | exact True.intro | omega))
      refine V_ret (evs ?_)
      first | exact fl1 hc | exact fl2 ‹_› hc | exact fl5 h1 h2 ‹_› ‹_› hc | exact fl6 h1 h2 ‹_› ‹_› hc
    · refine WA_skip ?_
      refine WA_seq (x := (fcd Try.f33 [1, 1, 1, 0])) (y := (fcd Try.f33 [1, 1, 1, 1])) ?_
      refine V_draw Γ [] [0, 1, 4, 5, 6, 8, 14, 29] mixed (by kernel_rfl) (evs ?_)
      all_goals (try with_reducible (repeat' (first | apply And.intro | intro _)))
      all_goals (try (first | with_reducible refine wa_id ?_ | exact True.intro | omega))
      refine WA_seq (x := (fcd Try.f33 [1, 1, 1, 1, 0])) (y := (fcd Try.f33 [1, 1, 1, 1, 1])) ?_
      refine WA_seq (x := (fcd Try.f33 [1, 1, 1, 1, 0, 0])) (y := (fcd Try.f33 [1, 1, 1, 1, 0, 1])) ?_
      refine V_regionX Γ Δ [] [0, 1, 4, 5, 6, 8, 14, 29] (evs ?_)
      all_goals (try with_reducible (repeat' (first | apply And.intro | intro _)))
      all_goals (try (first | with_reducible refine wa_id ?_ | exact True.intro | omega))
      refine V_cond (evs ?_)
      refine ⟨fun hc => ?_, fun hc => ?_⟩
      · refine WA_seq (x := (fcd Try.f33 [1, 1, 1, 1, 0, 1, 0, 0])) (y := (fcd Try.f33 [1, 1, 1, 1, 0, 1, 0, 1])) ?_
        refine V_regionX Γ Δ [] [0, 1, 4, 5, 6, 8, 14, 29] (evs ?_)
        all_goals (try with_reducible (repeat' (first | apply And.intro | intro _)))
        all_goals (try (first | with_reducible refine wa_id ?_ | exact True.intro | omega))
        refine V_ret (evs ?_)
        first | exact fl1 hc | exact fl2 ‹_› hc | exact fl5 h1 h2 ‹_› ‹_› hc | exact fl6 h1 h2 ‹_› ‹_› hc
      · refine WA_skip ?_
        refine WA_seq (x := (fcd Try.f33 [1, 1, 1, 1, 1, 0])) (y := (fcd Try.f33 [1, 1, 1, 1, 1, 1])) ?_
        refine V_regionX Γ Δ [] [0, 1, 4, 5, 6, 8, 14, 29] (evs ?_)
        all_goals (try with_reducible (repeat' (first | apply And.intro | intro _)))
        all_goals (try (first | with_reducible refine wa_id ?_ | exact True.intro | omega))
        refine V_ret (evs ?_)
        first | exact fl1 hc | exact fl2 ‹_› hc | exact fl5 h1 h2 ‹_› ‹_› hc | exact fl6 h1 h2 ‹_› ‹_› hc

/-- imageeditor/num.Div -/
theorem div_fn (a b : Int) (h1 : -4611686018427387904 ≤ a) (h2 : a ≤ 4611686018427387904) (h3 : 0 < b) (h4 : b ≤ 4294967296) : Eng.Fn Try.prog 25 [.i a, .i b] (.dat (.i (divI a b))) := by
  refine Eng.Fn.by (fn := Try.f25) 46 [.tmp 4] Try.func25 rfl Try.ntmps25 rfl (by simp) fun w0 => ?_
  refine WA_seq (x := (fcd Try.f25 [0])) (y := (fcd Try.f25 [1])) ?_
  refine V_regionX Γ Δ [] [0, 1, 4, 5, 6, 8, 14, 42] (evs ?_)
  all_goals (try with_reducible (repeat' (first | apply And.intro | intro _)))
  all_goals (try (first | with_reducible refine wa_id ?_ | exact True.intro | omega))
  refine WA_seq (x := (fcd Try.f25 [1, 0])) (y := (fcd Try.f25 [1, 1])) ?_
  refine WA_seq (x := (fcd Try.f25 [1, 0, 0])) (y := (fcd Try.f25 [1, 0, 1])) ?_
  refine V_regionX Γ Δ [] [0, 1, 4, 5, 6, 8, 14, 42] (evs ?_)
  all_goals (try with_reducible (repeat' (first | apply And.intro | intro _)))
  all_goals (try (first | with_reducible refine wa_id ?_ | exact True.intro | omega))
  refine V_cond (evs ?_)
  refine ⟨fun hc => ?_, fun hc => ?_⟩
  · refine WA_seq (x := (fcd Try.f25 [1, 0, 1, 0, 0])) (y := (fcd Try.f25 [1, 0, 1, 0, 1])) ?_
    refine V_regionX Γ Δ [] [0, 1, 4, 5, 6, 8, 14, 42] (evs ?_)
    all_goals (try with_reducible (repeat' (first | apply And.intro | intro _)))
    all_goals (try (first | with_reducible refine wa_id ?_ | exact True.intro | omega))
    refine V_ret (evs ?_)
    first | omega | exact dv1 h1 h2 h3 h4 hc | exact dv2 h1 h2 h3 h4 hc
  · refine WA_skip ?_
    refine WA_seq (x := (fcd Try.f25 [1, 1, 0])) (y := (fcd Try.f25 [1, 1, 1])) ?_
    refine WA_seq (x := (fcd Try.f25 [1, 1, 0, 0])) (y := (fcd Try.f25 [1, 1, 0, 1])) ?_
    refine V_regionX Γ Δ [] [0, 1, 4, 5, 6, 8, 14, 42] (evs ?_)
    all_goals (try with_reducible (repeat' (first | apply And.intro | intro _)))
    all_goals (try (first | with_reducible refine wa_id ?_ | exact True.intro | omega))
    refine V_cond (evs ?_)
    refine ⟨fun hc => ?_, fun hc => ?_⟩
    · refine WA_seq (x := (fcd Try.f25 [1, 1, 0, 1, 0, 0])) (y := (fcd Try.f25 [1, 1, 0, 1, 0, 1])) ?_
      refine V_regionX Γ Δ [] [0, 1, 4, 5, 6, 8, 14, 42] (evs ?_)
      all_goals (try with_reducible (repeat' (first | apply And.intro | intro _)))
      all_goals (try (first | with_reducible refine wa_id ?_ | exact True.intro | omega))
      refine V_ret (evs ?_)
      first | omega | exact dv1 h1 h2 h3 h4 hc | exact dv2 h1 h2 h3 h4 hc
    · refine WA_skip ?_
      refine WA_seq (x := (fcd Try.f25 [1, 1, 1, 0])) (y := (fcd Try.f25 [1, 1, 1, 1])) ?_
      refine V_regionX Γ Δ [] [0, 1, 4, 5, 6, 8, 14, 42] (evs ?_)
      all_goals (try with_reducible (repeat' (first | apply And.intro | intro _)))
      all_goals (try (first | with_reducible refine wa_id ?_ | exact True.intro | exact floor_fn _ _ (by omega) (by omega) | omega))
      refine WA_seq (x := (fcd Try.f25 [1, 1, 1, 1, 0])) (y := (fcd Try.f25 [1, 1, 1, 1, 1])) ?_
      refine V_regionX Γ Δ [] [0, 1, 4, 5, 6, 8, 14, 42] (evs ?_)
      all_goals (try with_reducible (repeat' (first | apply And.intro | intro _)))
      all_goals (try (first | with_reducible refine wa_id ?_ | exact True.intro | omega))
      refine WA_seq (x := (fcd Try.f25 [1, 1, 1, 1, 1, 0])) (y := (fcd Try.f25 [1, 1, 1, 1, 1, 1])) ?_
      refine WA_seq (x := (fcd Try.f25 [1, 1, 1, 1, 1, 0, 0])) (y := (fcd Try.f25 [1, 1, 1, 1, 1, 0, 1])) ?_
      refine V_regionX Γ Δ [] [0, 1, 4, 5, 6, 8, 14, 42] (evs ?_)
      all_goals (try with_reducible (repeat' (first | apply And.intro | intro _)))
      all_goals (try (first | with_reducible refine wa_id ?_ | exact True.intro | omega))
      refine V_cond (evs ?_)
      refine ⟨fun hc => ?_, fun hc => ?_⟩
      · refine V_regionX Γ Δ [] [0, 1, 4, 5, 6, 8, 14, 42] (evs ?_)
        all_goals (try with_reducible (repeat' (first | apply And.intro | intro _)))
        all_goals (try (first | with_reducible refine wa_id ?_ | exact True.intro | omega))
        refine WA_seq (x := (fcd Try.f25 [1, 1, 1, 1, 1, 1, 0])) (y := (fcd Try.f25 [1, 1, 1, 1, 1, 1, 1])) ?_
        refine V_regionX Γ Δ [] [0, 1, 4, 5, 6, 8, 14, 42] (evs ?_)
        all_goals (try with_reducible (repeat' (first | apply And.intro | intro _)))
        all_goals (try (first | with_reducible refine wa_id ?_ | exact True.intro | omega))
        refine V_ret (evs ?_)
        first | omega | exact dv1 h1 h2 h3 h4 hc | exact dv2 h1 h2 h3 h4 hc
      · refine WA_skip ?_
        refine WA_seq (x := (fcd Try.f25 [1, 1, 1, 1, 1, 1, 0])) (y := (fcd Try.f25 [1, 1, 1, 1, 1, 1, 1])) ?_
        refine V_regionX Γ Δ [] [0, 1, 4, 5, 6, 8, 14, 42] (evs ?_)
        all_goals (try with_reducible (repeat' (first | apply And.intro | intro _)))
        all_goals (try (first | with_reducible refine wa_id ?_ | exact True.intro | omega))
        refine V_ret (evs ?_)
        first | omega | exact dv1 h1 h2 h3 h4 hc | exact dv2 h1 h2 h3 h4 hc

/-- imageeditor/imageeditorref01.Abs -/
theorem rabs_fn (a : Int) (h1 : -9223372036854775808 < a) (h2 : a ≤ 9223372036854775807) : Eng.Fn Try.prog 56 [.i a] (.dat (.v (.int .u64 (absU a)))) := by
  refine Eng.Fn.by (fn := Try.f56) 10 [.tmp 2] Try.func56 rfl Try.ntmps56 rfl (by simp) fun w0 => ?_
  refine WA_seq (x := (fcd Try.f56 [0])) (y := (fcd Try.f56 [1])) ?_
  refine V_regionX Γ Δ [] [0, 2, 4] (evs ?_)
  all_goals (try with_reducible (repeat' (first | apply And.intro | intro _)))
  all_goals (try (first | with_reducible refine wa_id ?_ | exact True.intro | omega))
  refine WA_seq (x := (fcd Try.f56 [1, 0])) (y := (fcd Try.f56 [1, 1])) ?_
  refine WA_seq (x := (fcd Try.f56 [1, 0, 0])) (y := (fcd Try.f56 [1, 0, 1])) ?_
  refine V_regionX Γ Δ [] [0, 2, 4] (evs ?_)
  all_goals (try with_reducible (repeat' (first | apply And.intro | intro _)))
  all_goals (try (first | with_reducible refine wa_id ?_ | exact True.intro | omega))
  refine V_cond (evs ?_)
  refine ⟨fun hc => ?_, fun hc => ?_⟩
  · refine WA_seq (x := (fcd Try.f56 [1, 0, 1, 0, 0])) (y := (fcd Try.f56 [1, 0, 1, 0, 1])) ?_
    refine V_regionX Γ Δ [] [0, 2, 4] (evs ?_)
    all_goals (try with_reducible (repeat' (first | apply And.intro | intro _)))
    all_goals (try (first | with_reducible refine wa_id ?_ | exact True.intro | omega))
    refine V_ret (evs ?_)
    first | exact ab1 h1 hc | exact ab2 h2 hc
  · refine WA_skip ?_
    refine WA_seq (x := (fcd Try.f56 [1, 1, 0])) (y := (fcd Try.f56 [1, 1, 1])) ?_
    refine V_regionX Γ Δ [] [0, 2, 4] (evs ?_)
    all_goals (try with_reducible (repeat' (first | apply And.intro | intro _)))
    all_goals (try (first | with_reducible refine wa_id ?_ | exact True.intro | omega))
    refine V_ret (evs ?_)
    first | exact ab1 h1 hc | exact ab2 h2 hc

/-- imageeditor/imageeditorref01.Div -/
theorem rdiv_fn (a b : Int) (h1 : -4611686018427387904 ≤ a) (h2 : a ≤ 4611686018427387904) (h3 : 0 < b) (h4 : b ≤ 4294967296) : Eng.Fn Try.prog 49 [.i a, .i b] (.dat (.i (divI a b))) := by
  refine Eng.Fn.by (fn := Try.f49) 34 [.tmp 4] Try.func49 rfl Try.ntmps49 rfl (by simp) fun w0 => ?_
  refine WA_seq (x := (fcd Try.f49 [0])) (y := (fcd Try.f49 [1])) ?_
  refine V_regionX Γ Δ [] [0, 1, 4, 5, 6, 8, 17, 30] (evs ?_)
  all_goals (try with_reducible (repeat' (first | apply And.intro | intro _)))
  all_goals (try (first | with_reducible refine wa_id ?_ | exact True.intro | omega))
  refine WA_seq (x := (fcd Try.f49 [1, 0])) (y := (fcd Try.f49 [1, 1])) ?_
  refine WA_seq (x := (fcd Try.f49 [1, 0, 0])) (y := (fcd Try.f49 [1, 0, 1])) ?_
  refine V_regionX Γ Δ [] [0, 1, 4, 5, 6, 8, 17, 30] (evs ?_)
  all_goals (try with_reducible (repeat' (first | apply And.intro | intro _)))
  all_goals (try (first | with_reducible refine wa_id ?_ | exact True.intro | omega))
  refine V_cond (evs ?_)
  refine ⟨fun hc => ?_, fun hc => ?_⟩
  · refine WA_seq (x := (fcd Try.f49 [1, 0, 1, 0, 0])) (y := (fcd Try.f49 [1, 0, 1, 0, 1])) ?_
    refine V_regionX Γ Δ [] [0, 1, 4, 5, 6, 8, 17, 30] (evs ?_)
    all_goals (try with_reducible (repeat' (first | apply And.intro | intro _)))
    all_goals (try (first | with_reducible refine wa_id ?_ | exact True.intro | omega))
    refine V_ret (evs ?_)
    first | omega | exact dv3 h3 h4 q hc | exact dv4 h3 h4 q hc
  · refine WA_skip ?_
    refine WA_seq (x := (fcd Try.f49 [1, 1, 0])) (y := (fcd Try.f49 [1, 1, 1])) ?_
    refine V_regionX Γ Δ [] [0, 1, 4, 5, 6, 8, 17, 30] (evs ?_)
    all_goals (try with_reducible (repeat' (first | apply And.intro | intro _)))
    all_goals (try (first | with_reducible refine wa_id ?_ | exact True.intro | exact rfloor_fn _ _ (by omega) (by omega) | omega))
    simp only [floor_pos h3]
    have q := quo_bd h1 h2 h3 h4
    refine WA_seq (x := (fcd Try.f49 [1, 1, 1, 0])) (y := (fcd Try.f49 [1, 1, 1, 1])) ?_
    refine WA_seq (x := (fcd Try.f49 [1, 1, 1, 0, 0])) (y := (fcd Try.f49 [1, 1, 1, 0, 1])) ?_
    refine V_regionX Γ Δ [] [0, 1, 4, 5, 6, 8, 17, 30] (evs ?_)
    all_goals (try with_reducible (repeat' (first | apply And.intro | intro _)))
    all_goals (try (first | with_reducible refine wa_id ?_ | exact True.intro | omega))
    refine V_cond (evs ?_)
    refine ⟨fun hc => ?_, fun hc => ?_⟩
    · refine WA_seq (x := (fcd Try.f49 [1, 1, 1, 0, 1, 0, 0])) (y := (fcd Try.f49 [1, 1, 1, 0, 1, 0, 1])) ?_
      refine V_regionX Γ Δ [] [0, 1, 4, 5, 6, 8, 17, 30] (evs ?_)
      all_goals (try with_reducible (repeat' (first | apply And.intro | intro _)))
      all_goals (try (first | with_reducible refine wa_id ?_ | exact True.intro | omega))
      refine V_ret (evs ?_)
      first | omega | exact dv3 h3 h4 q hc | exact dv4 h3 h4 q hc
    · refine WA_skip ?_
      refine WA_seq (x := (fcd Try.f49 [1, 1, 1, 1, 0])) (y := (fcd Try.f49 [1, 1, 1, 1, 1])) ?_
      refine V_regionX Γ Δ [] [0, 1, 4, 5, 6, 8, 17, 30] (evs ?_)
      simp (disch := omega) only [w64]
      all_goals (try with_reducible (repeat' (first | apply And.intro | intro _)))
      all_goals (try (first | with_reducible refine wa_id ?_ | exact True.intro | exact rabs_fn _ (by omega) (by omega) | omega))
      refine WA_seq (x := (fcd Try.f49 [1, 1, 1, 1, 1, 0])) (y := (fcd Try.f49 [1, 1, 1, 1, 1, 1])) ?_
      refine WA_seq (x := (fcd Try.f49 [1, 1, 1, 1, 1, 0, 0])) (y := (fcd Try.f49 [1, 1, 1, 1, 1, 0, 1])) ?_
      refine V_regionX Γ Δ [] [0, 1, 4, 5, 6, 8, 17, 30] (evs ?_)
      all_goals (try with_reducible (repeat' (first | apply And.intro | intro _)))
      all_goals (try (first | with_reducible refine wa_id ?_ | exact True.intro | exact rabs_fn _ (by omega) (by omega) | omega))
      refine V_cond (evs ?_)
      refine ⟨fun hc => ?_, fun hc => ?_⟩
      · refine WA_seq (x := (fcd Try.f49 [1, 1, 1, 1, 1, 0, 1, 0, 0])) (y := (fcd Try.f49 [1, 1, 1, 1, 1, 0, 1, 0, 1])) ?_
        refine V_regionX Γ Δ [] [0, 1, 4, 5, 6, 8, 17, 30] (evs ?_)
        all_goals (try with_reducible (repeat' (first | apply And.intro | intro _)))
        all_goals (try (first | with_reducible refine wa_id ?_ | exact True.intro | omega))
        refine V_ret (evs ?_)
        first | omega | exact dv3 h3 h4 q hc | exact dv4 h3 h4 q hc
      · refine WA_skip ?_
        refine WA_seq (x := (fcd Try.f49 [1, 1, 1, 1, 1, 1, 0])) (y := (fcd Try.f49 [1, 1, 1, 1, 1, 1, 1])) ?_
        refine V_regionX Γ Δ [] [0, 1, 4, 5, 6, 8, 17, 30] (evs ?_)
        all_goals (try with_reducible (repeat' (first | apply And.intro | intro _)))
        all_goals (try (first | with_reducible refine wa_id ?_ | exact True.intro | omega))
        refine V_ret (evs ?_)
        first | omega | exact dv3 h3 h4 q hc | exact dv4 h3 h4 q hc

/-- imageeditor/num.Clamp -/
theorem clamp_fn (a b c : Int) : Eng.Fn Try.prog 60 [.i a, .i b, .i c] (.dat (.i (clampI a b c))) := by
  refine Eng.Fn.by (fn := Try.f60) 12 [.tmp 6] Try.func60 rfl Try.ntmps60 rfl (by simp) fun w0 => ?_
  refine WA_seq (x := (fcd Try.f60 [0])) (y := (fcd Try.f60 [1])) ?_
  refine V_regionX Γ Δ [] [0, 1, 2, 6] (evs ?_)
  all_goals (try with_reducible (repeat' (first | apply And.intro | intro _)))
  all_goals (try (first | with_reducible refine wa_id ?_ | exact True.intro | omega))
  refine WA_seq (x := (fcd Try.f60 [1, 0])) (y := (fcd Try.f60 [1, 1])) ?_
  refine V_regionX Γ Δ [] [0, 1, 2, 6] (evs ?_)
  all_goals (try with_reducible (repeat' (first | apply And.intro | intro _)))
  all_goals (try (first | with_reducible refine wa_id ?_ | exact True.intro | omega))
  refine V_ret (evs ?_)
  rfl

/-- imageeditor/num.unit -/
theorem unit_fn (a : Int) : Eng.Fn Try.prog 58 [.i a] (.dat (.i (unitI a))) := by
  refine Eng.Fn.by (fn := Try.f58) 5 [.tmp 2] Try.func58 rfl Try.ntmps58 rfl (by simp) fun w0 => ?_
  refine WA_seq (x := (fcd Try.f58 [0])) (y := (fcd Try.f58 [1])) ?_
  refine V_regionX Γ Δ [] [0, 2] (evs ?_)
  all_goals (try with_reducible (repeat' (first | apply And.intro | intro _)))
  all_goals (try (first | with_reducible refine wa_id ?_ | exact True.intro | omega))
  refine WA_seq (x := (fcd Try.f58 [1, 0])) (y := (fcd Try.f58 [1, 1])) ?_
  refine V_regionX Γ Δ [] [0, 2] (evs ?_)
  all_goals (try with_reducible (repeat' (first | apply And.intro | intro _)))
  all_goals (try (first | with_reducible refine wa_id ?_ | exact True.intro | exact clamp_fn _ _ _ | omega))
  refine V_ret (evs ?_)
  rfl

/-- imageeditor/num.Mul -/
theorem mul_fn (a b : Int) : Eng.Fn Try.prog 51 [.i a, .i b] (.dat (.i (mulI a b))) := by
  refine Eng.Fn.by (fn := Try.f51) 11 [.tmp 4] Try.func51 rfl Try.ntmps51 rfl (by simp) fun w0 => ?_
  refine WA_seq (x := (fcd Try.f51 [0])) (y := (fcd Try.f51 [1])) ?_
  refine V_regionX Γ Δ [] [0, 1, 4] (evs ?_)
  all_goals (try with_reducible (repeat' (first | apply And.intro | intro _)))
  all_goals (try (first | with_reducible refine wa_id ?_ | exact True.intro | omega))
  refine WA_seq (x := (fcd Try.f51 [1, 0])) (y := (fcd Try.f51 [1, 1])) ?_
  refine V_regionX Γ Δ [] [0, 1, 4] (evs ?_)
  simp only [wuu]
  have := uu_bd a b
  all_goals (try with_reducible (repeat' (first | apply And.intro | intro _)))
  all_goals (try (first | with_reducible refine wa_id ?_ | exact True.intro | exact unit_fn _ | exact div_fn _ _ (by omega) (by omega) (by omega) (by omega) | omega))
  refine V_ret (evs ?_)
  rfl

/-- imageeditor/imageeditorref01.Clamp -/
theorem rclamp_fn (a b c : Int) : Eng.Fn Try.prog 59 [.i a, .i b, .i c] (.dat (.i (clampI a b c))) := by
  refine Eng.Fn.by (fn := Try.f59) 12 [.tmp 6] Try.func59 rfl Try.ntmps59 rfl (by simp) fun w0 => ?_
  refine WA_seq (x := (fcd Try.f59 [0])) (y := (fcd Try.f59 [1])) ?_
  refine V_regionX Γ Δ [] [0, 1, 2, 6] (evs ?_)
  all_goals (try with_reducible (repeat' (first | apply And.intro | intro _)))
  all_goals (try (first | with_reducible refine wa_id ?_ | exact True.intro | omega))
  refine WA_seq (x := (fcd Try.f59 [1, 0])) (y := (fcd Try.f59 [1, 1])) ?_
  refine V_regionX Γ Δ [] [0, 1, 2, 6] (evs ?_)
  all_goals (try with_reducible (repeat' (first | apply And.intro | intro _)))
  all_goals (try (first | with_reducible refine wa_id ?_ | exact True.intro | omega))
  refine V_ret (evs ?_)
  rfl

/-- imageeditor/pixel.unit -/
theorem punit_fn (a : Int) : Eng.Fn Try.prog 57 [.i a] (.dat (.i (unitI a))) := by
  refine Eng.Fn.by (fn := Try.f57) 5 [.tmp 2] Try.func57 rfl Try.ntmps57 rfl (by simp) fun w0 => ?_
  refine WA_seq (x := (fcd Try.f57 [0])) (y := (fcd Try.f57 [1])) ?_
  refine V_regionX Γ Δ [] [0, 2] (evs ?_)
  all_goals (try with_reducible (repeat' (first | apply And.intro | intro _)))
  all_goals (try (first | with_reducible refine wa_id ?_ | exact True.intro | omega))
  refine WA_seq (x := (fcd Try.f57 [1, 0])) (y := (fcd Try.f57 [1, 1])) ?_
  refine V_regionX Γ Δ [] [0, 2] (evs ?_)
  all_goals (try with_reducible (repeat' (first | apply And.intro | intro _)))
  all_goals (try (first | with_reducible refine wa_id ?_ | exact True.intro | exact clamp_fn _ _ _ | omega))
  refine V_ret (evs ?_)
  rfl

/-- imageeditor/imageeditorref06.U -/
theorem rpunit_fn (a : Int) : Eng.Fn Try.prog 53 [.i a] (.dat (.i (unitI a))) := by
  refine Eng.Fn.by (fn := Try.f53) 5 [.tmp 2] Try.func53 rfl Try.ntmps53 rfl (by simp) fun w0 => ?_
  refine WA_seq (x := (fcd Try.f53 [0])) (y := (fcd Try.f53 [1])) ?_
  refine V_regionX Γ Δ [] [0, 2] (evs ?_)
  all_goals (try with_reducible (repeat' (first | apply And.intro | intro _)))
  all_goals (try (first | with_reducible refine wa_id ?_ | exact True.intro | omega))
  refine WA_seq (x := (fcd Try.f53 [1, 0])) (y := (fcd Try.f53 [1, 1])) ?_
  refine V_regionX Γ Δ [] [0, 2] (evs ?_)
  all_goals (try with_reducible (repeat' (first | apply And.intro | intro _)))
  all_goals (try (first | with_reducible refine wa_id ?_ | exact True.intro | exact rclamp_fn _ _ _ | omega))
  refine V_ret (evs ?_)
  rfl

/-- imageeditor/pixel.Limit -/
theorem plimit_fn (p : Px) : Eng.Fn Try.prog 50 [pxD p] (.dat (pxD (limP p))) := by
  refine Eng.Fn.by (fn := Try.f50) 16 [.cell 2 40] Try.func50 rfl Try.ntmps50 rfl (by simp) fun w0 => ?_
  refine WA_seq (x := (fcd Try.f50 [0])) (y := (fcd Try.f50 [1])) ?_
  refine V_regionX Γ Δ [] [0, 1, 2] (evs ?_)
  all_goals (try with_reducible (repeat' (first | apply And.intro | intro _)))
  all_goals (try (first | with_reducible refine wa_id ?_ | exact True.intro | omega))
  refine WA_seq (x := (fcd Try.f50 [1, 0])) (y := (fcd Try.f50 [1, 1])) ?_
  refine V_draw Γ [] [0, 1, 2] mixed (by kernel_rfl) (evs ?_)
  all_goals (try with_reducible (repeat' (first | apply And.intro | intro _)))
  all_goals (try (first | with_reducible refine wa_id ?_ | exact True.intro | exact punit_fn _ | omega))
  refine V_ret (evs ?_)
  exact ⟨rfl, rfl, rfl, rfl⟩

/-- imageeditor/imageeditorref06.Limit -/
theorem rlimit_fn (p : Px) : Eng.Fn Try.prog 52 [pxD p] (.dat (pxD (limP p))) := by
  refine Eng.Fn.by (fn := Try.f52) 16 [.cell 2 40] Try.func52 rfl Try.ntmps52 rfl (by simp) fun w0 => ?_
  refine WA_seq (x := (fcd Try.f52 [0])) (y := (fcd Try.f52 [1])) ?_
  refine V_regionX Γ Δ [] [0, 1, 2] (evs ?_)
  all_goals (try with_reducible (repeat' (first | apply And.intro | intro _)))
  all_goals (try (first | with_reducible refine wa_id ?_ | exact True.intro | omega))
  refine WA_seq (x := (fcd Try.f52 [1, 0])) (y := (fcd Try.f52 [1, 1])) ?_
  refine V_draw Γ [] [0, 1, 2] mixed (by kernel_rfl) (evs ?_)
  all_goals (try with_reducible (repeat' (first | apply And.intro | intro _)))
  all_goals (try (first | with_reducible refine wa_id ?_ | exact True.intro | exact rpunit_fn _ | omega))
  refine V_ret (evs ?_)
  exact ⟨rfl, rfl, rfl, rfl⟩

/-- imageeditor/pixel.Valid -/
theorem pvalid6_fn (p : Px) : Eng.Fn Try.prog 41 [pxD p] (.dat (.b (validP p))) := by
  refine Eng.Fn.by (fn := Try.f41) 7 [.tmp 2] Try.func41 rfl Try.ntmps41 rfl (by simp) fun w0 => ?_
  refine WA_seq (x := (fcd Try.f41 [0])) (y := (fcd Try.f41 [1])) ?_
  refine V_regionX Γ Δ [] [0, 1, 2] (evs ?_)
  all_goals (try with_reducible (repeat' (first | apply And.intro | intro _)))
  all_goals (try (first | with_reducible refine wa_id ?_ | exact True.intro | omega))
  refine WA_seq (x := (fcd Try.f41 [1, 0])) (y := (fcd Try.f41 [1, 1])) ?_
  refine V_draw Γ [] [0, 1, 2] mixed (by kernel_rfl) (evs ?_)
  all_goals (try with_reducible (repeat' (first | apply And.intro | intro _)))
  all_goals (try (first | with_reducible refine wa_id ?_ | exact True.intro | exact plimit_fn _ | omega))
  refine V_ret (evs ?_)
  first | exact vp1 p | exact vp2 p

/-- imageeditor/imageeditorref06.Valid -/
theorem rvalid6_fn (p : Px) : Eng.Fn Try.prog 43 [pxD p] (.dat (.b (validP p))) := by
  refine Eng.Fn.by (fn := Try.f43) 7 [.tmp 2] Try.func43 rfl Try.ntmps43 rfl (by simp) fun w0 => ?_
  refine WA_seq (x := (fcd Try.f43 [0])) (y := (fcd Try.f43 [1])) ?_
  refine V_regionX Γ Δ [] [0, 1, 2] (evs ?_)
  all_goals (try with_reducible (repeat' (first | apply And.intro | intro _)))
  all_goals (try (first | with_reducible refine wa_id ?_ | exact True.intro | omega))
  refine WA_seq (x := (fcd Try.f43 [1, 0])) (y := (fcd Try.f43 [1, 1])) ?_
  refine V_draw Γ [] [0, 1, 2] mixed (by kernel_rfl) (evs ?_)
  all_goals (try with_reducible (repeat' (first | apply And.intro | intro _)))
  all_goals (try (first | with_reducible refine wa_id ?_ | exact True.intro | exact rlimit_fn _ | omega))
  refine V_ret (evs ?_)
  first | exact vp1 p | exact vp2 p

/-- imageeditor/pixel.Fade -/
theorem pfade_fn (p : Px) (a : Int) : Eng.Fn Try.prog 42 [pxD p, .i a] (.dat (pxD (fadeP p a))) := by
  refine Eng.Fn.by (fn := Try.f42) 17 [.cell 4 40] Try.func42 rfl Try.ntmps42 rfl (by simp) fun w0 => ?_
  refine WA_seq (x := (fcd Try.f42 [0])) (y := (fcd Try.f42 [1])) ?_
  refine V_regionX Γ Δ [] [0, 1, 2, 4, 14] (evs ?_)
  all_goals (try with_reducible (repeat' (first | apply And.intro | intro _)))
  all_goals (try (first | with_reducible refine wa_id ?_ | exact True.intro | omega))
  refine WA_seq (x := (fcd Try.f42 [1, 0])) (y := (fcd Try.f42 [1, 1])) ?_
  refine V_regionX Γ Δ [] [0, 1, 2, 4, 14] (evs ?_)
  all_goals (try with_reducible (repeat' (first | apply And.intro | intro _)))
  all_goals (try (first | with_reducible refine wa_id ?_ | exact True.intro | exact plimit_fn _ | omega))
  refine WA_seq (x := (fcd Try.f42 [1, 1, 0])) (y := (fcd Try.f42 [1, 1, 1])) ?_
  refine V_regionX Γ Δ [] [0, 1, 2, 4, 14] (evs ?_)
  all_goals (try with_reducible (repeat' (first | apply And.intro | intro _)))
  all_goals (try (first | with_reducible refine wa_id ?_ | exact True.intro | exact mul_fn _ _ | omega))
  refine WA_seq (x := (fcd Try.f42 [1, 1, 1, 0])) (y := (fcd Try.f42 [1, 1, 1, 1])) ?_
  refine WA_seq (x := (fcd Try.f42 [1, 1, 1, 0, 0])) (y := (fcd Try.f42 [1, 1, 1, 0, 1])) ?_
  refine V_regionX Γ Δ [] [0, 1, 2, 4, 14] (evs ?_)
  all_goals (try with_reducible (repeat' (first | apply And.intro | intro _)))
  all_goals (try (first | with_reducible refine wa_id ?_ | exact True.intro | omega))
  refine V_cond (evs ?_)
  refine ⟨fun hc => ?_, fun hc => ?_⟩
  · refine WA_seq (x := (fcd Try.f42 [1, 1, 1, 0, 1, 0, 0])) (y := (fcd Try.f42 [1, 1, 1, 0, 1, 0, 1])) ?_
    refine V_regionX Γ Δ [] [0, 1, 2, 4, 14] (evs ?_)
    all_goals (try with_reducible (repeat' (first | apply And.intro | intro _)))
    all_goals (try (first | with_reducible refine wa_id ?_ | exact True.intro | omega))
    refine V_ret (evs ?_)
    first | exact pe (p := zP) (fd1 hc) | exact pe (fd2 hc)
  · refine WA_skip ?_
    refine WA_seq (x := (fcd Try.f42 [1, 1, 1, 1, 0])) (y := (fcd Try.f42 [1, 1, 1, 1, 1])) ?_
    refine V_regionX Γ Δ [] [0, 1, 2, 4, 14] (evs ?_)
    all_goals (try with_reducible (repeat' (first | apply And.intro | intro _)))
    all_goals (try (first | with_reducible refine wa_id ?_ | exact True.intro | omega))
    refine V_ret (evs ?_)
    first | exact pe (p := zP) (fd1 hc) | exact pe (fd2 hc)

/-- imageeditor/imageeditorref06.Fade -/
theorem rfade_fn (p : Px) (a : Int) : Eng.Fn Try.prog 44 [pxD p, .i a] (.dat (pxD (fadeP p a))) := by
  refine Eng.Fn.by (fn := Try.f44) 19 [.cell 4 40] Try.func44 rfl Try.ntmps44 rfl (by simp) fun w0 => ?_
  refine WA_seq (x := (fcd Try.f44 [0])) (y := (fcd Try.f44 [1])) ?_
  refine V_regionX Γ Δ [] [0, 1, 2, 4, 16] (evs ?_)
  all_goals (try with_reducible (repeat' (first | apply And.intro | intro _)))
  all_goals (try (first | with_reducible refine wa_id ?_ | exact True.intro | omega))
  refine WA_seq (x := (fcd Try.f44 [1, 0])) (y := (fcd Try.f44 [1, 1])) ?_
  refine V_regionX Γ Δ [] [0, 1, 2, 4, 16] (evs ?_)
  all_goals (try with_reducible (repeat' (first | apply And.intro | intro _)))
  all_goals (try (first | with_reducible refine wa_id ?_ | exact True.intro | exact rlimit_fn _ | omega))
  refine WA_seq (x := (fcd Try.f44 [1, 1, 0])) (y := (fcd Try.f44 [1, 1, 1])) ?_
  refine V_draw Γ [] [0, 1, 2, 4, 16] mixed (by kernel_rfl) (evs ?_)
  simp only [wlu]
  have := uu_bd (unitI p.a) a
  all_goals (try with_reducible (repeat' (first | apply And.intro | intro _)))
  all_goals (try (first | with_reducible refine wa_id ?_ | exact True.intro | exact rpunit_fn _ | exact rdiv_fn _ _ (by omega) (by omega) (by omega) (by omega) | omega))
  refine WA_seq (x := (fcd Try.f44 [1, 1, 1, 0])) (y := (fcd Try.f44 [1, 1, 1, 1])) ?_
  refine WA_seq (x := (fcd Try.f44 [1, 1, 1, 0, 0])) (y := (fcd Try.f44 [1, 1, 1, 0, 1])) ?_
  refine V_regionX Γ Δ [] [0, 1, 2, 4, 16] (evs ?_)
  all_goals (try with_reducible (repeat' (first | apply And.intro | intro _)))
  all_goals (try (first | with_reducible refine wa_id ?_ | exact True.intro | omega))
  refine V_cond (evs ?_)
  refine ⟨fun hc => ?_, fun hc => ?_⟩
  · refine WA_seq (x := (fcd Try.f44 [1, 1, 1, 0, 1, 0, 0])) (y := (fcd Try.f44 [1, 1, 1, 0, 1, 0, 1])) ?_
    refine V_regionX Γ Δ [] [0, 1, 2, 4, 16] (evs ?_)
    all_goals (try with_reducible (repeat' (first | apply And.intro | intro _)))
    all_goals (try (first | with_reducible refine wa_id ?_ | exact True.intro | omega))
    refine V_ret (evs ?_)
    first | exact pe (p := zP) (fd1 hc) | exact pe (fd2 hc)
  · refine WA_skip ?_
    refine WA_seq (x := (fcd Try.f44 [1, 1, 1, 1, 0])) (y := (fcd Try.f44 [1, 1, 1, 1, 1])) ?_
    refine V_regionX Γ Δ [] [0, 1, 2, 4, 16] (evs ?_)
    all_goals (try with_reducible (repeat' (first | apply And.intro | intro _)))
    all_goals (try (first | with_reducible refine wa_id ?_ | exact True.intro | omega))
    refine V_ret (evs ?_)
    first | exact pe (p := zP) (fd1 hc) | exact pe (fd2 hc)

end Go.S20

