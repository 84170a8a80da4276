import Derived.Test.YtppghgoeibelkaaF23
set_option linter.unusedSimpArgs false
set_option linter.unusedVariables false
namespace Go.S23
open Go.RowKit Go.Proofs Go.Eng Go.Rect
/-- imageeditor/mask.unit -/
theorem munit_fn (n : Int) : Eng.Fn Try.prog 47 [.i n] (.dat (.b (unitB n))) := by
  refine Eng.Fn.by (fn := Try.f47) 9 [.tmp 2] Try.func47 rfl Try.ntmps47 rfl (by simp) fun w0 => ?_
  refine WA_seq (x := (fcd Try.f47 [0])) (y := (fcd Try.f47 [1])) ?_
  refine V_regionX Γ Δ [] [0, 2] (evs ?_)
  all_goals (try with_reducible (repeat' (first | apply And.intro | intro _)))
  all_goals (try (first | with_reducible refine wa_id ?_ | exact True.intro | omega))
  refine WA_seq (x := (fcd Try.f47 [1, 0])) (y := (fcd Try.f47 [1, 1])) ?_
  refine V_regionX Γ Δ [] [0, 2] (evs ?_)
  all_goals (try with_reducible (repeat' (first | apply And.intro | intro _)))
  all_goals (try (first | with_reducible refine wa_id ?_ | exact True.intro | omega))
  refine V_ret (evs ?_)
  first | rfl | (simp [unitB]; done)

/-- imageeditor/mask.sized -/
theorem msized_fn (w h : Int) : Eng.Fn Try.prog 46 [.i w, .i h] (.dat (.i (sizedE w h))) := by
  refine Eng.Fn.by (fn := Try.f46) 19 [.tmp 4] Try.func46 rfl Try.ntmps46 rfl (by simp) fun w0 => ?_
  refine WA_seq (x := (fcd Try.f46 [0])) (y := (fcd Try.f46 [1])) ?_
  refine V_regionX Γ Δ [] [0, 1, 4, 18] (evs ?_)
  all_goals (try with_reducible (repeat' (first | apply And.intro | intro _)))
  all_goals (try (first | with_reducible refine wa_id ?_ | exact True.intro | omega))
  refine WA_seq (x := (fcd Try.f46 [1, 0])) (y := (fcd Try.f46 [1, 1])) ?_
  refine WA_seq (x := (fcd Try.f46 [1, 0, 0])) (y := (fcd Try.f46 [1, 0, 1])) ?_
  refine V_regionX Γ Δ [] [0, 1, 4, 18] (evs ?_)
  all_goals (try with_reducible (repeat' (first | apply And.intro | intro _)))
  all_goals (try (first | with_reducible refine wa_id ?_ | exact True.intro | omega))
  refine V_cond (evs ?_)
  refine ⟨fun hc => ?_, fun hc => ?_⟩
  · refine WA_seq (x := (fcd Try.f46 [1, 0, 1, 0, 0])) (y := (fcd Try.f46 [1, 0, 1, 0, 1])) ?_
    refine V_regionX Γ Δ [] [0, 1, 4, 18] (evs ?_)
    all_goals (try with_reducible (repeat' (first | apply And.intro | intro _)))
    all_goals (try (first | with_reducible refine wa_id ?_ | exact True.intro | omega))
    refine V_ret (evs ?_)
    first | exact sz1 hc | exact sz2 hc
  · refine WA_skip ?_
    refine WA_seq (x := (fcd Try.f46 [1, 1, 0])) (y := (fcd Try.f46 [1, 1, 1])) ?_
    refine V_regionX Γ Δ [] [0, 1, 4, 18] (evs ?_)
    all_goals (try with_reducible (repeat' (first | apply And.intro | intro _)))
    all_goals (try (first | with_reducible refine wa_id ?_ | exact True.intro | omega))
    refine V_ret (evs ?_)
    first | exact sz1 hc | exact sz2 hc

/-- imageeditor/imageeditorref23.sized -/
theorem rsized_fn (w h : Int) : Eng.Fn Try.prog 49 [.i w, .i h] (.dat (.b (sizedB w h))) := by
  refine Eng.Fn.by (fn := Try.f49) 19 [.tmp 4] Try.func49 rfl Try.ntmps49 rfl (by simp) fun w0 => ?_
  refine WA_seq (x := (fcd Try.f49 [0])) (y := (fcd Try.f49 [1])) ?_
  refine V_regionX Γ Δ [] [0, 1, 4] (evs ?_)
  all_goals (try with_reducible (repeat' (first | apply And.intro | intro _)))
  all_goals (try (first | with_reducible refine wa_id ?_ | exact True.intro | omega))
  refine WA_seq (x := (fcd Try.f49 [1, 0])) (y := (fcd Try.f49 [1, 1])) ?_
  refine V_regionX Γ Δ [] [0, 1, 4] (evs ?_)
  all_goals (try with_reducible (repeat' (first | apply And.intro | intro _)))
  all_goals (try (first | with_reducible refine wa_id ?_ | exact True.intro | omega))
  refine V_ret (evs ?_)
  first | rfl | (simp [sizedB]; done)

/-- imageeditor/mask.blank -/
theorem blank_fn (w h : Int) (hz : Z0 w h) : Eng.Fn Try.prog 51 [.i w, .i h] (.agg [.dat (.i w), .dat (.i h), .own 3 1 ((List.replicate (nn w h) 0).map iC)]) := by
  refine Eng.Fn.by (fn := Try.f51) 12 [.cell 4 24] Try.func51 rfl Try.ntmps51 rfl (by simp) fun w0 => ?_
  refine WA_seq (x := (fcd Try.f51 [0])) (y := (fcd Try.f51 [1])) ?_
  refine V_regionX Γ Δ [] [0, 1, 4] (evs ?_)
  all_goals (try with_reducible (repeat' (first | apply And.intro | intro _)))
  all_goals (try (first | with_reducible refine wa_id ?_ | exact True.intro | omega))
  refine WA_seq (x := (fcd Try.f51 [1, 0])) (y := (fcd Try.f51 [1, 1])) ?_
  refine V_regionX Γ Δ [] [0, 1, 4] (evs ?_)
  have hb := nn_bd hz
  simp only [wN hz, Int.toNat_natCast]
  all_goals (try with_reducible (repeat' (first | apply And.intro | intro _)))
  all_goals (try (first | with_reducible refine wa_id ?_ | exact True.intro | omega))
  refine V_ret (evs ?_)
  first | rfl | exact ⟨rfl, rfl⟩ | (simp; done)

/-- imageeditor/mask.inside -/
theorem inside23_fn (m : Mk) (x y : Int) : Eng.Fn Try.prog 74 [mkD m, .i x, .i y] (.dat (.b (insM m x y))) := by
  refine Eng.Fn.by (fn := Try.f74) 25 [.tmp 6] Try.func74 rfl Try.ntmps74 rfl (by simp) fun w0 => ?_
  refine WA_seq (x := (fcd Try.f74 [0])) (y := (fcd Try.f74 [1])) ?_
  refine V_regionX Γ Δ [] [0, 1, 2, 3, 6] (evs ?_)
  all_goals (try with_reducible (repeat' (first | apply And.intro | intro _)))
  all_goals (try (first | with_reducible refine wa_id ?_ | exact True.intro | omega))
  refine WA_seq (x := (fcd Try.f74 [1, 0])) (y := (fcd Try.f74 [1, 1])) ?_
  refine V_regionX Γ Δ [] [0, 1, 2, 3, 6] (evs ?_)
  all_goals (try with_reducible (repeat' (first | apply And.intro | intro _)))
  all_goals (try (first | with_reducible refine wa_id ?_ | exact True.intro | omega))
  refine V_ret (evs ?_)
  first | rfl | (simp [insM]; done)

/-- imageeditor/mask.combined -/
theorem combined_fn (p q how : Int) (hp : 0 ≤ p ∧ p ≤ 65535) (hq : 0 ≤ q ∧ q ≤ 65535) : Eng.Fn Try.prog 73 [.i p, .i q, .i how] (.dat (.i (comb p q how))) := by
  refine Eng.Fn.by (fn := Try.f73) 34 [.tmp 6] Try.func73 rfl Try.ntmps73 rfl (by simp) fun w0 => ?_
  refine WA_seq (x := (fcd Try.f73 [0])) (y := (fcd Try.f73 [1])) ?_
  refine V_regionX Γ Δ [] [0, 1, 2, 6, 7, 8, 13, 19, 24] (evs ?_)
  all_goals (try with_reducible (repeat' (first | apply And.intro | intro _)))
  all_goals (try (first | with_reducible refine wa_id ?_ | exact True.intro | omega))
  refine WA_seq (x := (fcd Try.f73 [1, 0])) (y := (fcd Try.f73 [1, 1])) ?_
  refine WA_seq (x := (fcd Try.f73 [1, 0, 0])) (y := (fcd Try.f73 [1, 0, 1])) ?_
  refine V_regionX Γ Δ [] [0, 1, 2, 6, 7, 8, 13, 19, 24] (evs ?_)
  all_goals (try with_reducible (repeat' (first | apply And.intro | intro _)))
  all_goals (try (first | with_reducible refine wa_id ?_ | exact True.intro | omega))
  refine WA_block (c := (fcd Try.f73 [1, 0, 1, 0])) ?_
  refine WA_seq (x := (fcd Try.f73 [1, 0, 1, 0, 0])) (y := (fcd Try.f73 [1, 0, 1, 0, 1])) ?_
  refine V_regionX Γ Δ [] [0, 1, 2, 6, 7, 8, 13, 19, 24] (evs ?_)
  all_goals (try with_reducible (repeat' (first | apply And.intro | intro _)))
  all_goals (try (first | with_reducible refine wa_id ?_ | exact True.intro | omega))
  refine V_cond (evs ?_)
  refine ⟨fun hc => ?_, fun hc => ?_⟩
  · refine WA_seq (x := (fcd Try.f73 [1, 0, 1, 0, 1, 0, 0])) (y := (fcd Try.f73 [1, 0, 1, 0, 1, 0, 1])) ?_
    refine V_regionX Γ Δ [] [0, 1, 2, 6, 7, 8, 13, 19, 24] (evs ?_)
    all_goals (try with_reducible (repeat' (first | apply And.intro | intro _)))
    all_goals (try (first | with_reducible refine wa_id ?_ | exact True.intro | omega))
    refine V_ret (evs ?_)
    (try simp (maxSteps := 10000000) (disch := omega) only [w64])
    first | (simp [comb, *]; done) | (subst hc; rfl) | (simp only [comb]; split <;> omega)
  · refine WA_seq (x := (fcd Try.f73 [1, 0, 1, 0, 1, 1, 0])) (y := (fcd Try.f73 [1, 0, 1, 0, 1, 1, 1])) ?_
    refine V_regionX Γ Δ [] [0, 1, 2, 6, 7, 8, 13, 19, 24] (evs ?_)
    all_goals (try with_reducible (repeat' (first | apply And.intro | intro _)))
    all_goals (try (first | with_reducible refine wa_id ?_ | exact True.intro | omega))
    refine V_cond (evs ?_)
    refine ⟨fun hc => ?_, fun hc => ?_⟩
    · refine WA_seq (x := (fcd Try.f73 [1, 0, 1, 0, 1, 1, 1, 0, 0])) (y := (fcd Try.f73 [1, 0, 1, 0, 1, 1, 1, 0, 1])) ?_
      refine V_regionX Γ Δ [] [0, 1, 2, 6, 7, 8, 13, 19, 24] (evs ?_)
      all_goals (try with_reducible (repeat' (first | apply And.intro | intro _)))
      all_goals (try (first | with_reducible refine wa_id ?_ | exact True.intro | omega))
      refine V_ret (evs ?_)
      (try simp (maxSteps := 10000000) (disch := omega) only [w64])
      first | (simp [comb, *]; done) | (subst hc; rfl) | (simp only [comb]; split <;> omega)
    · refine WA_seq (x := (fcd Try.f73 [1, 0, 1, 0, 1, 1, 1, 1, 0])) (y := (fcd Try.f73 [1, 0, 1, 0, 1, 1, 1, 1, 1])) ?_
      refine V_regionX Γ Δ [] [0, 1, 2, 6, 7, 8, 13, 19, 24] (evs ?_)
      all_goals (try with_reducible (repeat' (first | apply And.intro | intro _)))
      all_goals (try (first | with_reducible refine wa_id ?_ | exact True.intro | omega))
      refine V_cond (evs ?_)
      refine ⟨fun hc => ?_, fun hc => ?_⟩
      · refine WA_seq (x := (fcd Try.f73 [1, 0, 1, 0, 1, 1, 1, 1, 1, 0, 0])) (y := (fcd Try.f73 [1, 0, 1, 0, 1, 1, 1, 1, 1, 0, 1])) ?_
        refine V_regionX Γ Δ [] [0, 1, 2, 6, 7, 8, 13, 19, 24] (evs ?_)
        all_goals (try with_reducible (repeat' (first | apply And.intro | intro _)))
        all_goals (try (first | with_reducible refine wa_id ?_ | exact True.intro | omega))
        refine V_ret (evs ?_)
        (try simp (maxSteps := 10000000) (disch := omega) only [w64])
        first | (simp [comb, *]; done) | (subst hc; rfl) | (simp only [comb]; split <;> omega)
      · refine WA_seq (x := (fcd Try.f73 [1, 0, 1, 0, 1, 1, 1, 1, 1, 1, 0])) (y := (fcd Try.f73 [1, 0, 1, 0, 1, 1, 1, 1, 1, 1, 1])) ?_
        refine V_regionX Γ Δ [] [0, 1, 2, 6, 7, 8, 13, 19, 24] (evs ?_)
        all_goals (try with_reducible (repeat' (first | apply And.intro | intro _)))
        all_goals (try (first | with_reducible refine wa_id ?_ | exact True.intro | omega))
        refine V_cond (evs ?_)
        refine ⟨fun hc => ?_, fun hc => ?_⟩
        · refine WA_seq (x := (fcd Try.f73 [1, 0, 1, 0, 1, 1, 1, 1, 1, 1, 1, 0, 0])) (y := (fcd Try.f73 [1, 0, 1, 0, 1, 1, 1, 1, 1, 1, 1, 0, 1])) ?_
          refine V_regionX Γ Δ [] [0, 1, 2, 6, 7, 8, 13, 19, 24] (evs ?_)
          all_goals (try with_reducible (repeat' (first | apply And.intro | intro _)))
          all_goals (try (first | with_reducible refine wa_id ?_ | exact True.intro | omega))
          refine V_ret (evs ?_)
          (try simp (maxSteps := 10000000) (disch := omega) only [w64])
          first | (simp [comb, *]; done) | (subst hc; rfl) | (simp only [comb]; split <;> omega)
        · refine WA_skip ?_
          refine WA_seq (x := (fcd Try.f73 [1, 1, 0])) (y := (fcd Try.f73 [1, 1, 1])) ?_
          refine V_regionX Γ Δ [] [0, 1, 2, 6, 7, 8, 13, 19, 24] (evs ?_)
          all_goals (try with_reducible (repeat' (first | apply And.intro | intro _)))
          all_goals (try (first | with_reducible refine wa_id ?_ | exact True.intro | omega))
          refine V_ret (evs ?_)
          (try simp (maxSteps := 10000000) (disch := omega) only [w64])
          first | (simp [comb, *]; done) | (subst hc; rfl) | (simp only [comb]; split <;> omega)

/-- imageeditor/mask.fits -/
theorem fits_fn (m : Mk) (i : Im) : Eng.Fn Try.prog 67 [mkD m, imD i] (.dat (.b (fitB m i))) := by
  refine Eng.Fn.by (fn := Try.f67) 22 [.tmp 4] Try.func67 rfl Try.ntmps67 rfl (by simp) fun w0 => ?_
  refine WA_seq (x := (fcd Try.f67 [0])) (y := (fcd Try.f67 [1])) ?_
  refine V_regionX Γ Δ [] [0, 1, 2, 3, 4] (evs ?_)
  all_goals (try with_reducible (repeat' (first | apply And.intro | intro _)))
  all_goals (try (first | with_reducible refine wa_id ?_ | exact True.intro | omega))
  refine WA_seq (x := (fcd Try.f67 [1, 0])) (y := (fcd Try.f67 [1, 1])) ?_
  refine V_regionX Γ Δ [] [0, 1, 2, 3, 4] (evs ?_)
  all_goals (try with_reducible (repeat' (first | apply And.intro | intro _)))
  all_goals (try (first | with_reducible refine wa_id ?_ | exact True.intro | omega))
  refine V_ret (evs ?_)
  first | rfl | (simp [fitB]; done)

end Go.S23

