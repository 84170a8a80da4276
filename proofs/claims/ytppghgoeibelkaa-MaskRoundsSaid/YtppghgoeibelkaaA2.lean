import Derived.Test.YtppghgoeibelkaaF23
import Derived.Test.YtppghgoeibelkaaLB
set_option linter.unusedSimpArgs false
set_option linter.unusedVariables false
namespace Go.S23
open Go.RowKit Go.Proofs Go.Eng Go.Rect
/-- imageeditor/num.Floor -/
theorem floor_fn (a b : Int) (h1 : -9223372036854775808 ≤ a) (h2 : a ≤ 9223372036854775807) : Eng.Fn Try.prog 81 [.i a, .i b] (.dat (.i (floorI a b))) := by
  refine Eng.Fn.by (fn := Try.f81) 31 [.tmp 4] Try.func81 rfl Try.ntmps81 rfl (by simp) fun w0 => ?_
  refine WA_seq (x := (fcd Try.f81 [0])) (y := (fcd Try.f81 [1])) ?_
  refine V_regionX Γ Δ [] [0, 1, 4, 5, 7, 13, 27] (evs ?_)
  all_goals (try with_reducible (repeat' (first | apply And.intro | intro _)))
  all_goals (try (first | with_reducible refine wa_id ?_ | exact True.intro | omega))
  refine WA_seq (x := (fcd Try.f81 [1, 0])) (y := (fcd Try.f81 [1, 1])) ?_
  refine WA_seq (x := (fcd Try.f81 [1, 0, 0])) (y := (fcd Try.f81 [1, 0, 1])) ?_
  refine V_regionX Γ Δ [] [0, 1, 4, 5, 7, 13, 27] (evs ?_)
  all_goals (try with_reducible (repeat' (first | apply And.intro | intro _)))
  all_goals (try (first | with_reducible refine wa_id ?_ | exact True.intro | omega))
  refine V_cond (evs ?_)
  refine ⟨fun hc => ?_, fun hc => ?_⟩
  · refine WA_seq (x := (fcd Try.f81 [1, 0, 1, 0, 0])) (y := (fcd Try.f81 [1, 0, 1, 0, 1])) ?_
    refine V_regionX Γ Δ [] [0, 1, 4, 5, 7, 13, 27] (evs ?_)
    all_goals (try with_reducible (repeat' (first | apply And.intro | intro _)))
    all_goals (try (first | with_reducible refine wa_id ?_ | exact True.intro | omega))
    refine V_ret (evs ?_)
    first | exact fl1 hc | exact fl2 ‹_› hc | exact fl3 h1 h2 ‹_› ‹_› hc | exact fl4 h1 h2 ‹_› ‹_› hc
  · refine WA_skip ?_
    refine WA_seq (x := (fcd Try.f81 [1, 1, 0])) (y := (fcd Try.f81 [1, 1, 1])) ?_
    refine WA_seq (x := (fcd Try.f81 [1, 1, 0, 0])) (y := (fcd Try.f81 [1, 1, 0, 1])) ?_
    refine V_regionX Γ Δ [] [0, 1, 4, 5, 7, 13, 27] (evs ?_)
    all_goals (try with_reducible (repeat' (first | apply And.intro | intro _)))
    all_goals (try (first | with_reducible refine wa_id ?_ | exact True.intro | omega))
    refine V_cond (evs ?_)
    refine ⟨fun hc => ?_, fun hc => ?_⟩
    · refine WA_seq (x := (fcd Try.f81 [1, 1, 0, 1, 0, 0])) (y := (fcd Try.f81 [1, 1, 0, 1, 0, 1])) ?_
      refine V_regionX Γ Δ [] [0, 1, 4, 5, 7, 13, 27] (evs ?_)
      all_goals (try with_reducible (repeat' (first | apply And.intro | intro _)))
      all_goals (try (first | with_reducible refine wa_id ?_ | exact True.intro | omega))
      refine V_ret (evs ?_)
      first | exact fl1 hc | exact fl2 ‹_› hc | exact fl3 h1 h2 ‹_› ‹_› hc | exact fl4 h1 h2 ‹_› ‹_› hc
    · refine WA_skip ?_
      refine WA_seq (x := (fcd Try.f81 [1, 1, 1, 0])) (y := (fcd Try.f81 [1, 1, 1, 1])) ?_
      refine V_regionX Γ Δ [] [0, 1, 4, 5, 7, 13, 27] (evs ?_)
      all_goals (try with_reducible (repeat' (first | apply And.intro | intro _)))
      all_goals (try (first | with_reducible refine wa_id ?_ | exact True.intro | omega))
      refine WA_seq (x := (fcd Try.f81 [1, 1, 1, 1, 0])) (y := (fcd Try.f81 [1, 1, 1, 1, 1])) ?_
      refine WA_seq (x := (fcd Try.f81 [1, 1, 1, 1, 0, 0])) (y := (fcd Try.f81 [1, 1, 1, 1, 0, 1])) ?_
      refine V_regionX Γ Δ [] [0, 1, 4, 5, 7, 13, 27] (evs ?_)
      all_goals (try with_reducible (repeat' (first | apply And.intro | intro _)))
      all_goals (try (first | with_reducible refine wa_id ?_ | exact True.intro | omega))
      refine V_cond (evs ?_)
      refine ⟨fun hc => ?_, fun hc => ?_⟩
      · refine V_regionX Γ Δ [] [0, 1, 4, 5, 7, 13, 27] (evs ?_)
        all_goals (try with_reducible (repeat' (first | apply And.intro | intro _)))
        all_goals (try (first | with_reducible refine wa_id ?_ | exact True.intro | omega))
        refine WA_seq (x := (fcd Try.f81 [1, 1, 1, 1, 1, 0])) (y := (fcd Try.f81 [1, 1, 1, 1, 1, 1])) ?_
        refine V_regionX Γ Δ [] [0, 1, 4, 5, 7, 13, 27] (evs ?_)
        all_goals (try with_reducible (repeat' (first | apply And.intro | intro _)))
        all_goals (try (first | with_reducible refine wa_id ?_ | exact True.intro | omega))
        refine V_ret (evs ?_)
        first | exact fl1 hc | exact fl2 ‹_› hc | exact fl3 h1 h2 ‹_› ‹_› hc | exact fl4 h1 h2 ‹_› ‹_› hc
      · refine WA_skip ?_
        refine WA_seq (x := (fcd Try.f81 [1, 1, 1, 1, 1, 0])) (y := (fcd Try.f81 [1, 1, 1, 1, 1, 1])) ?_
        refine V_regionX Γ Δ [] [0, 1, 4, 5, 7, 13, 27] (evs ?_)
        all_goals (try with_reducible (repeat' (first | apply And.intro | intro _)))
        all_goals (try (first | with_reducible refine wa_id ?_ | exact True.intro | omega))
        refine V_ret (evs ?_)
        first | exact fl1 hc | exact fl2 ‹_› hc | exact fl3 h1 h2 ‹_› ‹_› hc | exact fl4 h1 h2 ‹_› ‹_› hc

/-- imageeditor/imageeditorref01.Floor -/
theorem rfloor_fn (a b : Int) (h1 : -9223372036854775808 ≤ a) (h2 : a ≤ 9223372036854775807) : Eng.Fn Try.prog 82 [.i a, .i b] (.dat (.i (floorI a b))) := by
  refine Eng.Fn.by (fn := Try.f82) 33 [.tmp 4] Try.func82 rfl Try.ntmps82 rfl (by simp) fun w0 => ?_
  refine WA_seq (x := (fcd Try.f82 [0])) (y := (fcd Try.f82 [1])) ?_
  refine V_regionX Γ Δ [] [0, 1, 4, 5, 6, 8, 14, 29] (evs ?_)
  all_goals (try with_reducible (repeat' (first | apply And.intro | intro _)))
  all_goals (try (first | with_reducible refine wa_id ?_ | exact True.intro | omega))
  refine WA_seq (x := (fcd Try.f82 [1, 0])) (y := (fcd Try.f82 [1, 1])) ?_
  refine WA_seq (x := (fcd Try.f82 [1, 0, 0])) (y := (fcd Try.f82 [1, 0, 1])) ?_
  refine V_regionX Γ Δ [] [0, 1, 4, 5, 6, 8, 14, 29] (evs ?_)
  all_goals (try with_reducible (repeat' (first | apply And.intro | intro _)))
  all_goals (try (first | with_reducible refine wa_id ?_ | exact True.intro | omega))
  refine V_cond (evs ?_)
  refine ⟨fun hc => ?_, fun hc => ?_⟩
  · refine WA_seq (x := (fcd Try.f82 [1, 0, 1, 0, 0])) (y := (fcd Try.f82 [1, 0, 1, 0, 1])) ?_
    refine V_regionX Γ Δ [] [0, 1, 4, 5, 6, 8, 14, 29] (evs ?_)
    all_goals (try with_reducible (repeat' (first | apply And.intro | intro _)))
    all_goals (try (first | with_reducible refine wa_id ?_ | exact True.intro | omega))
    refine V_ret (evs ?_)
    first | exact fl1 hc | exact fl2 ‹_› hc | exact fl5 h1 h2 ‹_› ‹_› hc | exact fl6 h1 h2 ‹_› ‹_› hc
  · refine WA_skip ?_
    refine WA_seq (x := (fcd Try.f82 [1, 1, 0])) (y := (fcd Try.f82 [1, 1, 1])) ?_
    refine WA_seq (x := (fcd Try.f82 [1, 1, 0, 0])) (y := (fcd Try.f82 [1, 1, 0, 1])) ?_
    refine V_regionX Γ Δ [] [0, 1, 4, 5, 6, 8, 14, 29] (evs ?_)
    all_goals (try with_reducible (repeat' (first | apply And.intro | intro _)))
    all_goals (try (first | with_reducible refine wa_id ?_ | exact True.intro | omega))
    refine V_cond (evs ?_)
    refine ⟨fun hc => ?_, fun hc => ?_⟩
    · refine WA_seq (x := (fcd Try.f82 [1, 1, 0, 1, 0, 0])) (y := (fcd Try.f82 [1, 1, 0, 1, 0, 1])) ?_
      refine V_regionX Γ Δ [] [0, 1, 4, 5, 6, 8, 14, 29] (evs ?_)
      all_goals (try with_reducible (repeat' (first | apply And.intro | intro _)))
      all_goals (try (first | with_reducible refine wa_id ?_ | exact True.intro | omega))
      refine V_ret (evs ?_)
      first | exact fl1 hc | exact fl2 ‹_› hc | exact fl5 h1 h2 ‹_› ‹_› hc | exact fl6 h1 h2 ‹_› ‹_› hc
    · refine WA_skip ?_
      refine WA_seq (x := (fcd Try.f82 [1, 1, 1, 0])) (y := (fcd Try.f82 [1, 1, 1, 1])) ?_
      refine V_draw Γ [] [0, 1, 4, 5, 6, 8, 14, 29] mixed (by kernel_rfl) (evs ?_)
      all_goals (try with_reducible (repeat' (first | apply And.intro | intro _)))
      all_goals (try (first | with_reducible refine wa_id ?_ | exact True.intro | omega))
      refine WA_seq (x := (fcd Try.f82 [1, 1, 1, 1, 0])) (y := (fcd Try.f82 [1, 1, 1, 1, 1])) ?_
      refine WA_seq (x := (fcd Try.f82 [1, 1, 1, 1, 0, 0])) (y := (fcd Try.f82 [1, 1, 1, 1, 0, 1])) ?_
      refine V_regionX Γ Δ [] [0, 1, 4, 5, 6, 8, 14, 29] (evs ?_)
      all_goals (try with_reducible (repeat' (first | apply And.intro | intro _)))
      all_goals (try (first | with_reducible refine wa_id ?_ | exact True.intro | omega))
      refine V_cond (evs ?_)
      refine ⟨fun hc => ?_, fun hc => ?_⟩
      · refine WA_seq (x := (fcd Try.f82 [1, 1, 1, 1, 0, 1, 0, 0])) (y := (fcd Try.f82 [1, 1, 1, 1, 0, 1, 0, 1])) ?_
        refine V_regionX Γ Δ [] [0, 1, 4, 5, 6, 8, 14, 29] (evs ?_)
        all_goals (try with_reducible (repeat' (first | apply And.intro | intro _)))
        all_goals (try (first | with_reducible refine wa_id ?_ | exact True.intro | omega))
        refine V_ret (evs ?_)
        first | exact fl1 hc | exact fl2 ‹_› hc | exact fl5 h1 h2 ‹_› ‹_› hc | exact fl6 h1 h2 ‹_› ‹_› hc
      · refine WA_skip ?_
        refine WA_seq (x := (fcd Try.f82 [1, 1, 1, 1, 1, 0])) (y := (fcd Try.f82 [1, 1, 1, 1, 1, 1])) ?_
        refine V_regionX Γ Δ [] [0, 1, 4, 5, 6, 8, 14, 29] (evs ?_)
        all_goals (try with_reducible (repeat' (first | apply And.intro | intro _)))
        all_goals (try (first | with_reducible refine wa_id ?_ | exact True.intro | omega))
        refine V_ret (evs ?_)
        first | exact fl1 hc | exact fl2 ‹_› hc | exact fl5 h1 h2 ‹_› ‹_› hc | exact fl6 h1 h2 ‹_› ‹_› hc

/-- imageeditor/num.Div -/
theorem div_fn (a b : Int) (h1 : -4611686018427387904 ≤ a) (h2 : a ≤ 4611686018427387904) (h3 : 0 < b) (h4 : b ≤ 4294967296) : Eng.Fn Try.prog 57 [.i a, .i b] (.dat (.i (divI a b))) := by
  refine Eng.Fn.by (fn := Try.f57) 46 [.tmp 4] Try.func57 rfl Try.ntmps57 rfl (by simp) fun w0 => ?_
  refine WA_seq (x := (fcd Try.f57 [0])) (y := (fcd Try.f57 [1])) ?_
  refine V_regionX Γ Δ [] [0, 1, 4, 5, 6, 8, 14, 42] (evs ?_)
  all_goals (try with_reducible (repeat' (first | apply And.intro | intro _)))
  all_goals (try (first | with_reducible refine wa_id ?_ | exact True.intro | omega))
  refine WA_seq (x := (fcd Try.f57 [1, 0])) (y := (fcd Try.f57 [1, 1])) ?_
  refine WA_seq (x := (fcd Try.f57 [1, 0, 0])) (y := (fcd Try.f57 [1, 0, 1])) ?_
  refine V_regionX Γ Δ [] [0, 1, 4, 5, 6, 8, 14, 42] (evs ?_)
  all_goals (try with_reducible (repeat' (first | apply And.intro | intro _)))
  all_goals (try (first | with_reducible refine wa_id ?_ | exact True.intro | omega))
  refine V_cond (evs ?_)
  refine ⟨fun hc => ?_, fun hc => ?_⟩
  · refine WA_seq (x := (fcd Try.f57 [1, 0, 1, 0, 0])) (y := (fcd Try.f57 [1, 0, 1, 0, 1])) ?_
    refine V_regionX Γ Δ [] [0, 1, 4, 5, 6, 8, 14, 42] (evs ?_)
    all_goals (try with_reducible (repeat' (first | apply And.intro | intro _)))
    all_goals (try (first | with_reducible refine wa_id ?_ | exact True.intro | omega))
    refine V_ret (evs ?_)
    first | omega | exact dv1 h1 h2 h3 h4 hc | exact dv2 h1 h2 h3 h4 hc
  · refine WA_skip ?_
    refine WA_seq (x := (fcd Try.f57 [1, 1, 0])) (y := (fcd Try.f57 [1, 1, 1])) ?_
    refine WA_seq (x := (fcd Try.f57 [1, 1, 0, 0])) (y := (fcd Try.f57 [1, 1, 0, 1])) ?_
    refine V_regionX Γ Δ [] [0, 1, 4, 5, 6, 8, 14, 42] (evs ?_)
    all_goals (try with_reducible (repeat' (first | apply And.intro | intro _)))
    all_goals (try (first | with_reducible refine wa_id ?_ | exact True.intro | omega))
    refine V_cond (evs ?_)
    refine ⟨fun hc => ?_, fun hc => ?_⟩
    · refine WA_seq (x := (fcd Try.f57 [1, 1, 0, 1, 0, 0])) (y := (fcd Try.f57 [1, 1, 0, 1, 0, 1])) ?_
      refine V_regionX Γ Δ [] [0, 1, 4, 5, 6, 8, 14, 42] (evs ?_)
      all_goals (try with_reducible (repeat' (first | apply And.intro | intro _)))
      all_goals (try (first | with_reducible refine wa_id ?_ | exact True.intro | omega))
      refine V_ret (evs ?_)
      first | omega | exact dv1 h1 h2 h3 h4 hc | exact dv2 h1 h2 h3 h4 hc
    · refine WA_skip ?_
      refine WA_seq (x := (fcd Try.f57 [1, 1, 1, 0])) (y := (fcd Try.f57 [1, 1, 1, 1])) ?_
      refine V_regionX Γ Δ [] [0, 1, 4, 5, 6, 8, 14, 42] (evs ?_)
      all_goals (try with_reducible (repeat' (first | apply And.intro | intro _)))
      all_goals (try (first | with_reducible refine wa_id ?_ | exact True.intro | exact floor_fn _ _ (by omega) (by omega) | omega))
      refine WA_seq (x := (fcd Try.f57 [1, 1, 1, 1, 0])) (y := (fcd Try.f57 [1, 1, 1, 1, 1])) ?_
      refine V_regionX Γ Δ [] [0, 1, 4, 5, 6, 8, 14, 42] (evs ?_)
      all_goals (try with_reducible (repeat' (first | apply And.intro | intro _)))
      all_goals (try (first | with_reducible refine wa_id ?_ | exact True.intro | omega))
      refine WA_seq (x := (fcd Try.f57 [1, 1, 1, 1, 1, 0])) (y := (fcd Try.f57 [1, 1, 1, 1, 1, 1])) ?_
      refine WA_seq (x := (fcd Try.f57 [1, 1, 1, 1, 1, 0, 0])) (y := (fcd Try.f57 [1, 1, 1, 1, 1, 0, 1])) ?_
      refine V_regionX Γ Δ [] [0, 1, 4, 5, 6, 8, 14, 42] (evs ?_)
      all_goals (try with_reducible (repeat' (first | apply And.intro | intro _)))
      all_goals (try (first | with_reducible refine wa_id ?_ | exact True.intro | omega))
      refine V_cond (evs ?_)
      refine ⟨fun hc => ?_, fun hc => ?_⟩
      · refine V_regionX Γ Δ [] [0, 1, 4, 5, 6, 8, 14, 42] (evs ?_)
        all_goals (try with_reducible (repeat' (first | apply And.intro | intro _)))
        all_goals (try (first | with_reducible refine wa_id ?_ | exact True.intro | omega))
        refine WA_seq (x := (fcd Try.f57 [1, 1, 1, 1, 1, 1, 0])) (y := (fcd Try.f57 [1, 1, 1, 1, 1, 1, 1])) ?_
        refine V_regionX Γ Δ [] [0, 1, 4, 5, 6, 8, 14, 42] (evs ?_)
        all_goals (try with_reducible (repeat' (first | apply And.intro | intro _)))
        all_goals (try (first | with_reducible refine wa_id ?_ | exact True.intro | omega))
        refine V_ret (evs ?_)
        first | omega | exact dv1 h1 h2 h3 h4 hc | exact dv2 h1 h2 h3 h4 hc
      · refine WA_skip ?_
        refine WA_seq (x := (fcd Try.f57 [1, 1, 1, 1, 1, 1, 0])) (y := (fcd Try.f57 [1, 1, 1, 1, 1, 1, 1])) ?_
        refine V_regionX Γ Δ [] [0, 1, 4, 5, 6, 8, 14, 42] (evs ?_)
        all_goals (try with_reducible (repeat' (first | apply And.intro | intro _)))
        all_goals (try (first | with_reducible refine wa_id ?_ | exact True.intro | omega))
        refine V_ret (evs ?_)
        first | omega | exact dv1 h1 h2 h3 h4 hc | exact dv2 h1 h2 h3 h4 hc

/-- imageeditor/imageeditorref01.Abs -/
theorem rabs_fn (a : Int) (h1 : -9223372036854775808 < a) (h2 : a ≤ 9223372036854775807) : Eng.Fn Try.prog 83 [.i a] (.dat (.v (.int .u64 (absU a)))) := by
  refine Eng.Fn.by (fn := Try.f83) 10 [.tmp 2] Try.func83 rfl Try.ntmps83 rfl (by simp) fun w0 => ?_
  refine WA_seq (x := (fcd Try.f83 [0])) (y := (fcd Try.f83 [1])) ?_
  refine V_regionX Γ Δ [] [0, 2, 4] (evs ?_)
  all_goals (try with_reducible (repeat' (first | apply And.intro | intro _)))
  all_goals (try (first | with_reducible refine wa_id ?_ | exact True.intro | omega))
  refine WA_seq (x := (fcd Try.f83 [1, 0])) (y := (fcd Try.f83 [1, 1])) ?_
  refine WA_seq (x := (fcd Try.f83 [1, 0, 0])) (y := (fcd Try.f83 [1, 0, 1])) ?_
  refine V_regionX Γ Δ [] [0, 2, 4] (evs ?_)
  all_goals (try with_reducible (repeat' (first | apply And.intro | intro _)))
  all_goals (try (first | with_reducible refine wa_id ?_ | exact True.intro | omega))
  refine V_cond (evs ?_)
  refine ⟨fun hc => ?_, fun hc => ?_⟩
  · refine WA_seq (x := (fcd Try.f83 [1, 0, 1, 0, 0])) (y := (fcd Try.f83 [1, 0, 1, 0, 1])) ?_
    refine V_regionX Γ Δ [] [0, 2, 4] (evs ?_)
    all_goals (try with_reducible (repeat' (first | apply And.intro | intro _)))
    all_goals (try (first | with_reducible refine wa_id ?_ | exact True.intro | omega))
    refine V_ret (evs ?_)
    first | exact ab1 h1 hc | exact ab2 h2 hc
  · refine WA_skip ?_
    refine WA_seq (x := (fcd Try.f83 [1, 1, 0])) (y := (fcd Try.f83 [1, 1, 1])) ?_
    refine V_regionX Γ Δ [] [0, 2, 4] (evs ?_)
    all_goals (try with_reducible (repeat' (first | apply And.intro | intro _)))
    all_goals (try (first | with_reducible refine wa_id ?_ | exact True.intro | omega))
    refine V_ret (evs ?_)
    first | exact ab1 h1 hc | exact ab2 h2 hc

/-- imageeditor/imageeditorref01.Div -/
theorem rdiv_fn (a b : Int) (h1 : -4611686018427387904 ≤ a) (h2 : a ≤ 4611686018427387904) (h3 : 0 < b) (h4 : b ≤ 4294967296) : Eng.Fn Try.prog 60 [.i a, .i b] (.dat (.i (divI a b))) := by
  refine Eng.Fn.by (fn := Try.f60) 34 [.tmp 4] Try.func60 rfl Try.ntmps60 rfl (by simp) fun w0 => ?_
  refine WA_seq (x := (fcd Try.f60 [0])) (y := (fcd Try.f60 [1])) ?_
  refine V_regionX Γ Δ [] [0, 1, 4, 5, 6, 8, 17, 30] (evs ?_)
  all_goals (try with_reducible (repeat' (first | apply And.intro | intro _)))
  all_goals (try (first | with_reducible refine wa_id ?_ | exact True.intro | omega))
  refine WA_seq (x := (fcd Try.f60 [1, 0])) (y := (fcd Try.f60 [1, 1])) ?_
  refine WA_seq (x := (fcd Try.f60 [1, 0, 0])) (y := (fcd Try.f60 [1, 0, 1])) ?_
  refine V_regionX Γ Δ [] [0, 1, 4, 5, 6, 8, 17, 30] (evs ?_)
  all_goals (try with_reducible (repeat' (first | apply And.intro | intro _)))
  all_goals (try (first | with_reducible refine wa_id ?_ | exact True.intro | omega))
  refine V_cond (evs ?_)
  refine ⟨fun hc => ?_, fun hc => ?_⟩
  · refine WA_seq (x := (fcd Try.f60 [1, 0, 1, 0, 0])) (y := (fcd Try.f60 [1, 0, 1, 0, 1])) ?_
    refine V_regionX Γ Δ [] [0, 1, 4, 5, 6, 8, 17, 30] (evs ?_)
    all_goals (try with_reducible (repeat' (first | apply And.intro | intro _)))
    all_goals (try (first | with_reducible refine wa_id ?_ | exact True.intro | omega))
    refine V_ret (evs ?_)
    first | omega | exact dv3 h3 h4 q hc | exact dv4 h3 h4 q hc
  · refine WA_skip ?_
    refine WA_seq (x := (fcd Try.f60 [1, 1, 0])) (y := (fcd Try.f60 [1, 1, 1])) ?_
    refine V_regionX Γ Δ [] [0, 1, 4, 5, 6, 8, 17, 30] (evs ?_)
    all_goals (try with_reducible (repeat' (first | apply And.intro | intro _)))
    all_goals (try (first | with_reducible refine wa_id ?_ | exact True.intro | exact rfloor_fn _ _ (by omega) (by omega) | omega))
    simp only [floor_pos h3]
    have q := quo_bd h1 h2 h3 h4
    refine WA_seq (x := (fcd Try.f60 [1, 1, 1, 0])) (y := (fcd Try.f60 [1, 1, 1, 1])) ?_
    refine WA_seq (x := (fcd Try.f60 [1, 1, 1, 0, 0])) (y := (fcd Try.f60 [1, 1, 1, 0, 1])) ?_
    refine V_regionX Γ Δ [] [0, 1, 4, 5, 6, 8, 17, 30] (evs ?_)
    all_goals (try with_reducible (repeat' (first | apply And.intro | intro _)))
    all_goals (try (first | with_reducible refine wa_id ?_ | exact True.intro | omega))
    refine V_cond (evs ?_)
    refine ⟨fun hc => ?_, fun hc => ?_⟩
    · refine WA_seq (x := (fcd Try.f60 [1, 1, 1, 0, 1, 0, 0])) (y := (fcd Try.f60 [1, 1, 1, 0, 1, 0, 1])) ?_
      refine V_regionX Γ Δ [] [0, 1, 4, 5, 6, 8, 17, 30] (evs ?_)
      all_goals (try with_reducible (repeat' (first | apply And.intro | intro _)))
      all_goals (try (first | with_reducible refine wa_id ?_ | exact True.intro | omega))
      refine V_ret (evs ?_)
      first | omega | exact dv3 h3 h4 q hc | exact dv4 h3 h4 q hc
    · refine WA_skip ?_
      refine WA_seq (x := (fcd Try.f60 [1, 1, 1, 1, 0])) (y := (fcd Try.f60 [1, 1, 1, 1, 1])) ?_
      refine V_regionX Γ Δ [] [0, 1, 4, 5, 6, 8, 17, 30] (evs ?_)
      simp (disch := omega) only [w64]
      all_goals (try with_reducible (repeat' (first | apply And.intro | intro _)))
      all_goals (try (first | with_reducible refine wa_id ?_ | exact True.intro | exact rabs_fn _ (by omega) (by omega) | omega))
      refine WA_seq (x := (fcd Try.f60 [1, 1, 1, 1, 1, 0])) (y := (fcd Try.f60 [1, 1, 1, 1, 1, 1])) ?_
      refine WA_seq (x := (fcd Try.f60 [1, 1, 1, 1, 1, 0, 0])) (y := (fcd Try.f60 [1, 1, 1, 1, 1, 0, 1])) ?_
      refine V_regionX Γ Δ [] [0, 1, 4, 5, 6, 8, 17, 30] (evs ?_)
      all_goals (try with_reducible (repeat' (first | apply And.intro | intro _)))
      all_goals (try (first | with_reducible refine wa_id ?_ | exact True.intro | exact rabs_fn _ (by omega) (by omega) | omega))
      refine V_cond (evs ?_)
      refine ⟨fun hc => ?_, fun hc => ?_⟩
      · refine WA_seq (x := (fcd Try.f60 [1, 1, 1, 1, 1, 0, 1, 0, 0])) (y := (fcd Try.f60 [1, 1, 1, 1, 1, 0, 1, 0, 1])) ?_
        refine V_regionX Γ Δ [] [0, 1, 4, 5, 6, 8, 17, 30] (evs ?_)
        all_goals (try with_reducible (repeat' (first | apply And.intro | intro _)))
        all_goals (try (first | with_reducible refine wa_id ?_ | exact True.intro | omega))
        refine V_ret (evs ?_)
        first | omega | exact dv3 h3 h4 q hc | exact dv4 h3 h4 q hc
      · refine WA_skip ?_
        refine WA_seq (x := (fcd Try.f60 [1, 1, 1, 1, 1, 1, 0])) (y := (fcd Try.f60 [1, 1, 1, 1, 1, 1, 1])) ?_
        refine V_regionX Γ Δ [] [0, 1, 4, 5, 6, 8, 17, 30] (evs ?_)
        all_goals (try with_reducible (repeat' (first | apply And.intro | intro _)))
        all_goals (try (first | with_reducible refine wa_id ?_ | exact True.intro | omega))
        refine V_ret (evs ?_)
        first | omega | exact dv3 h3 h4 q hc | exact dv4 h3 h4 q hc

/-- imageeditor/num.Clamp -/
theorem clamp_fn (a b c : Int) : Eng.Fn Try.prog 102 [.i a, .i b, .i c] (.dat (.i (clampI a b c))) := by
  refine Eng.Fn.by (fn := Try.f102) 12 [.tmp 6] Try.func102 rfl Try.ntmps102 rfl (by simp) fun w0 => ?_
  refine WA_seq (x := (fcd Try.f102 [0])) (y := (fcd Try.f102 [1])) ?_
  refine V_regionX Γ Δ [] [0, 1, 2, 6] (evs ?_)
  all_goals (try with_reducible (repeat' (first | apply And.intro | intro _)))
  all_goals (try (first | with_reducible refine wa_id ?_ | exact True.intro | omega))
  refine WA_seq (x := (fcd Try.f102 [1, 0])) (y := (fcd Try.f102 [1, 1])) ?_
  refine V_regionX Γ Δ [] [0, 1, 2, 6] (evs ?_)
  all_goals (try with_reducible (repeat' (first | apply And.intro | intro _)))
  all_goals (try (first | with_reducible refine wa_id ?_ | exact True.intro | omega))
  refine V_ret (evs ?_)
  rfl

/-- imageeditor/num.unit -/
theorem unit_fn (a : Int) : Eng.Fn Try.prog 100 [.i a] (.dat (.i (unitI a))) := by
  refine Eng.Fn.by (fn := Try.f100) 5 [.tmp 2] Try.func100 rfl Try.ntmps100 rfl (by simp) fun w0 => ?_
  refine WA_seq (x := (fcd Try.f100 [0])) (y := (fcd Try.f100 [1])) ?_
  refine V_regionX Γ Δ [] [0, 2] (evs ?_)
  all_goals (try with_reducible (repeat' (first | apply And.intro | intro _)))
  all_goals (try (first | with_reducible refine wa_id ?_ | exact True.intro | omega))
  refine WA_seq (x := (fcd Try.f100 [1, 0])) (y := (fcd Try.f100 [1, 1])) ?_
  refine V_regionX Γ Δ [] [0, 2] (evs ?_)
  all_goals (try with_reducible (repeat' (first | apply And.intro | intro _)))
  all_goals (try (first | with_reducible refine wa_id ?_ | exact True.intro | exact clamp_fn _ _ _ | omega))
  refine V_ret (evs ?_)
  rfl

/-- imageeditor/num.Mul -/
theorem mul_fn (a b : Int) : Eng.Fn Try.prog 87 [.i a, .i b] (.dat (.i (mulI a b))) := by
  refine Eng.Fn.by (fn := Try.f87) 11 [.tmp 4] Try.func87 rfl Try.ntmps87 rfl (by simp) fun w0 => ?_
  refine WA_seq (x := (fcd Try.f87 [0])) (y := (fcd Try.f87 [1])) ?_
  refine V_regionX Γ Δ [] [0, 1, 4] (evs ?_)
  all_goals (try with_reducible (repeat' (first | apply And.intro | intro _)))
  all_goals (try (first | with_reducible refine wa_id ?_ | exact True.intro | omega))
  refine WA_seq (x := (fcd Try.f87 [1, 0])) (y := (fcd Try.f87 [1, 1])) ?_
  refine V_regionX Γ Δ [] [0, 1, 4] (evs ?_)
  simp only [wuu]
  have := uu_bd a b
  all_goals (try with_reducible (repeat' (first | apply And.intro | intro _)))
  all_goals (try (first | with_reducible refine wa_id ?_ | exact True.intro | exact unit_fn _ | exact div_fn _ _ (by omega) (by omega) (by omega) (by omega) | omega))
  refine V_ret (evs ?_)
  rfl

/-- imageeditor/imageeditorref01.Clamp -/
theorem rclamp_fn (a b c : Int) : Eng.Fn Try.prog 101 [.i a, .i b, .i c] (.dat (.i (clampI a b c))) := by
  refine Eng.Fn.by (fn := Try.f101) 12 [.tmp 6] Try.func101 rfl Try.ntmps101 rfl (by simp) fun w0 => ?_
  refine WA_seq (x := (fcd Try.f101 [0])) (y := (fcd Try.f101 [1])) ?_
  refine V_regionX Γ Δ [] [0, 1, 2, 6] (evs ?_)
  all_goals (try with_reducible (repeat' (first | apply And.intro | intro _)))
  all_goals (try (first | with_reducible refine wa_id ?_ | exact True.intro | omega))
  refine WA_seq (x := (fcd Try.f101 [1, 0])) (y := (fcd Try.f101 [1, 1])) ?_
  refine V_regionX Γ Δ [] [0, 1, 2, 6] (evs ?_)
  all_goals (try with_reducible (repeat' (first | apply And.intro | intro _)))
  all_goals (try (first | with_reducible refine wa_id ?_ | exact True.intro | omega))
  refine V_ret (evs ?_)
  rfl

/-- imageeditor/pixel.unit -/
theorem punit_fn (a : Int) : Eng.Fn Try.prog 91 [.i a] (.dat (.i (unitI a))) := by
  refine Eng.Fn.by (fn := Try.f91) 5 [.tmp 2] Try.func91 rfl Try.ntmps91 rfl (by simp) fun w0 => ?_
  refine WA_seq (x := (fcd Try.f91 [0])) (y := (fcd Try.f91 [1])) ?_
  refine V_regionX Γ Δ [] [0, 2] (evs ?_)
  all_goals (try with_reducible (repeat' (first | apply And.intro | intro _)))
  all_goals (try (first | with_reducible refine wa_id ?_ | exact True.intro | omega))
  refine WA_seq (x := (fcd Try.f91 [1, 0])) (y := (fcd Try.f91 [1, 1])) ?_
  refine V_regionX Γ Δ [] [0, 2] (evs ?_)
  all_goals (try with_reducible (repeat' (first | apply And.intro | intro _)))
  all_goals (try (first | with_reducible refine wa_id ?_ | exact True.intro | exact clamp_fn _ _ _ | omega))
  refine V_ret (evs ?_)
  rfl

/-- imageeditor/imageeditorref06.U -/
theorem rpunit_fn (a : Int) : Eng.Fn Try.prog 90 [.i a] (.dat (.i (unitI a))) := by
  refine Eng.Fn.by (fn := Try.f90) 5 [.tmp 2] Try.func90 rfl Try.ntmps90 rfl (by simp) fun w0 => ?_
  refine WA_seq (x := (fcd Try.f90 [0])) (y := (fcd Try.f90 [1])) ?_
  refine V_regionX Γ Δ [] [0, 2] (evs ?_)
  all_goals (try with_reducible (repeat' (first | apply And.intro | intro _)))
  all_goals (try (first | with_reducible refine wa_id ?_ | exact True.intro | omega))
  refine WA_seq (x := (fcd Try.f90 [1, 0])) (y := (fcd Try.f90 [1, 1])) ?_
  refine V_regionX Γ Δ [] [0, 2] (evs ?_)
  all_goals (try with_reducible (repeat' (first | apply And.intro | intro _)))
  all_goals (try (first | with_reducible refine wa_id ?_ | exact True.intro | exact rclamp_fn _ _ _ | omega))
  refine V_ret (evs ?_)
  rfl

/-- imageeditor/pixel.Limit -/
theorem plimit_fn (p : Px) : Eng.Fn Try.prog 86 [pxD p] (.dat (pxD (limP p))) := by
  refine Eng.Fn.by (fn := Try.f86) 16 [.cell 2 49] Try.func86 rfl Try.ntmps86 rfl (by simp) fun w0 => ?_
  refine WA_seq (x := (fcd Try.f86 [0])) (y := (fcd Try.f86 [1])) ?_
  refine V_regionX Γ Δ [] [0, 1, 2] (evs ?_)
  all_goals (try with_reducible (repeat' (first | apply And.intro | intro _)))
  all_goals (try (first | with_reducible refine wa_id ?_ | exact True.intro | omega))
  refine WA_seq (x := (fcd Try.f86 [1, 0])) (y := (fcd Try.f86 [1, 1])) ?_
  refine V_draw Γ [] [0, 1, 2] mixed (by kernel_rfl) (evs ?_)
  all_goals (try with_reducible (repeat' (first | apply And.intro | intro _)))
  all_goals (try (first | with_reducible refine wa_id ?_ | exact True.intro | exact punit_fn _ | omega))
  refine V_ret (evs ?_)
  exact ⟨rfl, rfl, rfl, rfl⟩

/-- imageeditor/imageeditorref06.Limit -/
theorem rlimit_fn (p : Px) : Eng.Fn Try.prog 89 [pxD p] (.dat (pxD (limP p))) := by
  refine Eng.Fn.by (fn := Try.f89) 16 [.cell 2 49] Try.func89 rfl Try.ntmps89 rfl (by simp) fun w0 => ?_
  refine WA_seq (x := (fcd Try.f89 [0])) (y := (fcd Try.f89 [1])) ?_
  refine V_regionX Γ Δ [] [0, 1, 2] (evs ?_)
  all_goals (try with_reducible (repeat' (first | apply And.intro | intro _)))
  all_goals (try (first | with_reducible refine wa_id ?_ | exact True.intro | omega))
  refine WA_seq (x := (fcd Try.f89 [1, 0])) (y := (fcd Try.f89 [1, 1])) ?_
  refine V_draw Γ [] [0, 1, 2] mixed (by kernel_rfl) (evs ?_)
  all_goals (try with_reducible (repeat' (first | apply And.intro | intro _)))
  all_goals (try (first | with_reducible refine wa_id ?_ | exact True.intro | exact rpunit_fn _ | omega))
  refine V_ret (evs ?_)
  exact ⟨rfl, rfl, rfl, rfl⟩

/-- imageeditor/pixel.Valid -/
theorem pvalid6_fn (p : Px) : Eng.Fn Try.prog 85 [pxD p] (.dat (.b (validP p))) := by
  refine Eng.Fn.by (fn := Try.f85) 7 [.tmp 2] Try.func85 rfl Try.ntmps85 rfl (by simp) fun w0 => ?_
  refine WA_seq (x := (fcd Try.f85 [0])) (y := (fcd Try.f85 [1])) ?_
  refine V_regionX Γ Δ [] [0, 1, 2] (evs ?_)
  all_goals (try with_reducible (repeat' (first | apply And.intro | intro _)))
  all_goals (try (first | with_reducible refine wa_id ?_ | exact True.intro | omega))
  refine WA_seq (x := (fcd Try.f85 [1, 0])) (y := (fcd Try.f85 [1, 1])) ?_
  refine V_draw Γ [] [0, 1, 2] mixed (by kernel_rfl) (evs ?_)
  all_goals (try with_reducible (repeat' (first | apply And.intro | intro _)))
  all_goals (try (first | with_reducible refine wa_id ?_ | exact True.intro | exact plimit_fn _ | omega))
  refine V_ret (evs ?_)
  first | exact vp1 p | exact vp2 p

/-- imageeditor/imageeditorref06.Valid -/
theorem rvalid6_fn (p : Px) : Eng.Fn Try.prog 88 [pxD p] (.dat (.b (validP p))) := by
  refine Eng.Fn.by (fn := Try.f88) 7 [.tmp 2] Try.func88 rfl Try.ntmps88 rfl (by simp) fun w0 => ?_
  refine WA_seq (x := (fcd Try.f88 [0])) (y := (fcd Try.f88 [1])) ?_
  refine V_regionX Γ Δ [] [0, 1, 2] (evs ?_)
  all_goals (try with_reducible (repeat' (first | apply And.intro | intro _)))
  all_goals (try (first | with_reducible refine wa_id ?_ | exact True.intro | omega))
  refine WA_seq (x := (fcd Try.f88 [1, 0])) (y := (fcd Try.f88 [1, 1])) ?_
  refine V_draw Γ [] [0, 1, 2] mixed (by kernel_rfl) (evs ?_)
  all_goals (try with_reducible (repeat' (first | apply And.intro | intro _)))
  all_goals (try (first | with_reducible refine wa_id ?_ | exact True.intro | exact rlimit_fn _ | omega))
  refine V_ret (evs ?_)
  first | exact vp1 p | exact vp2 p

/-- imageeditor/pixel.Fade -/
theorem pfade_fn (p : Px) (a : Int) : Eng.Fn Try.prog 68 [pxD p, .i a] (.dat (pxD (fadeP p a))) := by
  refine Eng.Fn.by (fn := Try.f68) 17 [.cell 4 49] Try.func68 rfl Try.ntmps68 rfl (by simp) fun w0 => ?_
  refine WA_seq (x := (fcd Try.f68 [0])) (y := (fcd Try.f68 [1])) ?_
  refine V_regionX Γ Δ [] [0, 1, 2, 4, 14] (evs ?_)
  all_goals (try with_reducible (repeat' (first | apply And.intro | intro _)))
  all_goals (try (first | with_reducible refine wa_id ?_ | exact True.intro | omega))
  refine WA_seq (x := (fcd Try.f68 [1, 0])) (y := (fcd Try.f68 [1, 1])) ?_
  refine V_regionX Γ Δ [] [0, 1, 2, 4, 14] (evs ?_)
  all_goals (try with_reducible (repeat' (first | apply And.intro | intro _)))
  all_goals (try (first | with_reducible refine wa_id ?_ | exact True.intro | exact plimit_fn _ | omega))
  refine WA_seq (x := (fcd Try.f68 [1, 1, 0])) (y := (fcd Try.f68 [1, 1, 1])) ?_
  refine V_regionX Γ Δ [] [0, 1, 2, 4, 14] (evs ?_)
  all_goals (try with_reducible (repeat' (first | apply And.intro | intro _)))
  all_goals (try (first | with_reducible refine wa_id ?_ | exact True.intro | exact mul_fn _ _ | omega))
  refine WA_seq (x := (fcd Try.f68 [1, 1, 1, 0])) (y := (fcd Try.f68 [1, 1, 1, 1])) ?_
  refine WA_seq (x := (fcd Try.f68 [1, 1, 1, 0, 0])) (y := (fcd Try.f68 [1, 1, 1, 0, 1])) ?_
  refine V_regionX Γ Δ [] [0, 1, 2, 4, 14] (evs ?_)
  all_goals (try with_reducible (repeat' (first | apply And.intro | intro _)))
  all_goals (try (first | with_reducible refine wa_id ?_ | exact True.intro | omega))
  refine V_cond (evs ?_)
  refine ⟨fun hc => ?_, fun hc => ?_⟩
  · refine WA_seq (x := (fcd Try.f68 [1, 1, 1, 0, 1, 0, 0])) (y := (fcd Try.f68 [1, 1, 1, 0, 1, 0, 1])) ?_
    refine V_regionX Γ Δ [] [0, 1, 2, 4, 14] (evs ?_)
    all_goals (try with_reducible (repeat' (first | apply And.intro | intro _)))
    all_goals (try (first | with_reducible refine wa_id ?_ | exact True.intro | omega))
    refine V_ret (evs ?_)
    first | exact pe (p := zP) (fd1 hc) | exact pe (fd2 hc)
  · refine WA_skip ?_
    refine WA_seq (x := (fcd Try.f68 [1, 1, 1, 1, 0])) (y := (fcd Try.f68 [1, 1, 1, 1, 1])) ?_
    refine V_regionX Γ Δ [] [0, 1, 2, 4, 14] (evs ?_)
    all_goals (try with_reducible (repeat' (first | apply And.intro | intro _)))
    all_goals (try (first | with_reducible refine wa_id ?_ | exact True.intro | omega))
    refine V_ret (evs ?_)
    first | exact pe (p := zP) (fd1 hc) | exact pe (fd2 hc)

/-- imageeditor/imageeditorref06.Fade -/
theorem rfade_fn (p : Px) (a : Int) : Eng.Fn Try.prog 70 [pxD p, .i a] (.dat (pxD (fadeP p a))) := by
  refine Eng.Fn.by (fn := Try.f70) 19 [.cell 4 49] Try.func70 rfl Try.ntmps70 rfl (by simp) fun w0 => ?_
  refine WA_seq (x := (fcd Try.f70 [0])) (y := (fcd Try.f70 [1])) ?_
  refine V_regionX Γ Δ [] [0, 1, 2, 4, 16] (evs ?_)
  all_goals (try with_reducible (repeat' (first | apply And.intro | intro _)))
  all_goals (try (first | with_reducible refine wa_id ?_ | exact True.intro | omega))
  refine WA_seq (x := (fcd Try.f70 [1, 0])) (y := (fcd Try.f70 [1, 1])) ?_
  refine V_regionX Γ Δ [] [0, 1, 2, 4, 16] (evs ?_)
  all_goals (try with_reducible (repeat' (first | apply And.intro | intro _)))
  all_goals (try (first | with_reducible refine wa_id ?_ | exact True.intro | exact rlimit_fn _ | omega))
  refine WA_seq (x := (fcd Try.f70 [1, 1, 0])) (y := (fcd Try.f70 [1, 1, 1])) ?_
  refine V_draw Γ [] [0, 1, 2, 4, 16] mixed (by kernel_rfl) (evs ?_)
  simp only [wlu]
  have := uu_bd (unitI p.a) a
  all_goals (try with_reducible (repeat' (first | apply And.intro | intro _)))
  all_goals (try (first | with_reducible refine wa_id ?_ | exact True.intro | exact rpunit_fn _ | exact rdiv_fn _ _ (by omega) (by omega) (by omega) (by omega) | omega))
  refine WA_seq (x := (fcd Try.f70 [1, 1, 1, 0])) (y := (fcd Try.f70 [1, 1, 1, 1])) ?_
  refine WA_seq (x := (fcd Try.f70 [1, 1, 1, 0, 0])) (y := (fcd Try.f70 [1, 1, 1, 0, 1])) ?_
  refine V_regionX Γ Δ [] [0, 1, 2, 4, 16] (evs ?_)
  all_goals (try with_reducible (repeat' (first | apply And.intro | intro _)))
  all_goals (try (first | with_reducible refine wa_id ?_ | exact True.intro | omega))
  refine V_cond (evs ?_)
  refine ⟨fun hc => ?_, fun hc => ?_⟩
  · refine WA_seq (x := (fcd Try.f70 [1, 1, 1, 0, 1, 0, 0])) (y := (fcd Try.f70 [1, 1, 1, 0, 1, 0, 1])) ?_
    refine V_regionX Γ Δ [] [0, 1, 2, 4, 16] (evs ?_)
    all_goals (try with_reducible (repeat' (first | apply And.intro | intro _)))
    all_goals (try (first | with_reducible refine wa_id ?_ | exact True.intro | omega))
    refine V_ret (evs ?_)
    first | exact pe (p := zP) (fd1 hc) | exact pe (fd2 hc)
  · refine WA_skip ?_
    refine WA_seq (x := (fcd Try.f70 [1, 1, 1, 1, 0])) (y := (fcd Try.f70 [1, 1, 1, 1, 1])) ?_
    refine V_regionX Γ Δ [] [0, 1, 2, 4, 16] (evs ?_)
    all_goals (try with_reducible (repeat' (first | apply And.intro | intro _)))
    all_goals (try (first | with_reducible refine wa_id ?_ | exact True.intro | omega))
    refine V_ret (evs ?_)
    first | exact pe (p := zP) (fd1 hc) | exact pe (fd2 hc)

end Go.S23

