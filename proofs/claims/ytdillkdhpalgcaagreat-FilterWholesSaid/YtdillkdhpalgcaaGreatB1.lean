import Derived.Test.YtdillkdhpalgcaaGreatF16
set_option linter.unusedSimpArgs false
set_option linter.unusedVariables false
set_option linter.unusedSimpArgs false
set_option linter.unusedVariables false
namespace Go.S16
open Go.RowKit Go.Proofs Go.Eng Go.Rect
theorem spans_fn (k : Int) : Eng.Fn Tryz.prog 57 [.i k] (.own 82 2 ((spL k).map ptC)) := by
  refine Eng.Fn.by (fn := Tryz.f57) 32 [.tmp 2] Tryz.func57 rfl Tryz.ntmps57 rfl (by simp) fun w0 G0 => ?_
  refine WA_seq (x := (fcd Tryz.f57 [0])) (y := (fcd Tryz.f57 [1])) ?_
  refine V_regionX Γ Δ [] [0, 2, 3, 4, 10, 14, 18, 23, 28] (evs ?_)
  all_goals (try with_reducible (repeat' (first | apply And.intro | intro _)))
  all_goals (try (first | with_reducible refine wa_id ?_ | exact True.intro | omega))
  refine WA_seq (x := (fcd Tryz.f57 [1, 0])) (y := (fcd Tryz.f57 [1, 1])) ?_
  refine WA_seq (x := (fcd Tryz.f57 [1, 0, 0])) (y := (fcd Tryz.f57 [1, 0, 1])) ?_
  refine V_regionX Γ Δ [] [0, 2, 3, 4, 10, 14, 18, 23, 28] (evs ?_)
  all_goals (try with_reducible (repeat' (first | apply And.intro | intro _)))
  all_goals (try (first | with_reducible refine wa_id ?_ | exact True.intro | omega))
  refine WA_block (c := (fcd Tryz.f57 [1, 0, 1, 0])) ?_
  refine WA_seq (x := (fcd Tryz.f57 [1, 0, 1, 0, 0])) (y := (fcd Tryz.f57 [1, 0, 1, 0, 1])) ?_
  refine WA_seq (x := (fcd Tryz.f57 [1, 0, 1, 0, 0, 0])) (y := (fcd Tryz.f57 [1, 0, 1, 0, 0, 1])) ?_
  refine V_regionX Γ Δ [] [0, 2, 3, 4, 10, 14, 18, 23, 28] (evs ?_)
  all_goals (try with_reducible (repeat' (first | apply And.intro | intro _)))
  all_goals (try (first | with_reducible refine wa_id ?_ | exact True.intro | omega))
  refine V_cond (evs ?_)
  refine ⟨fun hc => ?_, fun hc => ?_⟩
  · refine WA_skip ?_
    refine V_cond (evs ?_)
    refine ⟨fun hc => ?_, fun hc => ?_⟩
    · refine WA_seq (x := (fcd Tryz.f57 [1, 0, 1, 0, 1, 0, 0])) (y := (fcd Tryz.f57 [1, 0, 1, 0, 1, 0, 1])) ?_
      refine V_regionX Γ Δ [] [0, 2, 3, 4, 10, 14, 18, 23, 28] (evs ?_)
      all_goals (try with_reducible (repeat' (first | apply And.intro | intro _)))
      all_goals (try (first | with_reducible refine wa_id ?_ | exact True.intro | omega))
      refine V_ret (evs ?_)
      first | (exfalso; omega) | (subst hc; rfl) | (subst k; rfl) | (rw [spL, if_neg (by omega), if_neg (by omega), if_neg (by omega), if_neg (by omega), if_neg (by omega), if_neg (by omega)]; rfl)
    · refine WA_seq (x := (fcd Tryz.f57 [1, 0, 1, 0, 1, 1, 0])) (y := (fcd Tryz.f57 [1, 0, 1, 0, 1, 1, 1])) ?_
      refine V_regionX Γ Δ [] [0, 2, 3, 4, 10, 14, 18, 23, 28] (evs ?_)
      all_goals (try with_reducible (repeat' (first | apply And.intro | intro _)))
      all_goals (try (first | with_reducible refine wa_id ?_ | exact True.intro | omega))
      refine V_cond (evs ?_)
      refine ⟨fun hc => ?_, fun hc => ?_⟩
      · refine WA_seq (x := (fcd Tryz.f57 [1, 0, 1, 0, 1, 1, 1, 0, 0])) (y := (fcd Tryz.f57 [1, 0, 1, 0, 1, 1, 1, 0, 1])) ?_
        refine V_regionX Γ Δ [] [0, 2, 3, 4, 10, 14, 18, 23, 28] (evs ?_)
        all_goals (try with_reducible (repeat' (first | apply And.intro | intro _)))
        all_goals (try (first | with_reducible refine wa_id ?_ | exact True.intro | omega))
        refine V_ret (evs ?_)
        first | (exfalso; omega) | (subst hc; rfl) | (subst k; rfl) | (rw [spL, if_neg (by omega), if_neg (by omega), if_neg (by omega), if_neg (by omega), if_neg (by omega), if_neg (by omega)]; rfl)
      · refine WA_seq (x := (fcd Tryz.f57 [1, 0, 1, 0, 1, 1, 1, 1, 0])) (y := (fcd Tryz.f57 [1, 0, 1, 0, 1, 1, 1, 1, 1])) ?_
        refine V_regionX Γ Δ [] [0, 2, 3, 4, 10, 14, 18, 23, 28] (evs ?_)
        all_goals (try with_reducible (repeat' (first | apply And.intro | intro _)))
        all_goals (try (first | with_reducible refine wa_id ?_ | exact True.intro | omega))
        refine V_cond (evs ?_)
        refine ⟨fun hc => ?_, fun hc => ?_⟩
        · refine WA_seq (x := (fcd Tryz.f57 [1, 0, 1, 0, 1, 1, 1, 1, 1, 0, 0])) (y := (fcd Tryz.f57 [1, 0, 1, 0, 1, 1, 1, 1, 1, 0, 1])) ?_
          refine V_regionX Γ Δ [] [0, 2, 3, 4, 10, 14, 18, 23, 28] (evs ?_)
          all_goals (try with_reducible (repeat' (first | apply And.intro | intro _)))
          all_goals (try (first | with_reducible refine wa_id ?_ | exact True.intro | omega))
          refine V_ret (evs ?_)
          first | (exfalso; omega) | (subst hc; rfl) | (subst k; rfl) | (rw [spL, if_neg (by omega), if_neg (by omega), if_neg (by omega), if_neg (by omega), if_neg (by omega), if_neg (by omega)]; rfl)
        · refine WA_seq (x := (fcd Tryz.f57 [1, 0, 1, 0, 1, 1, 1, 1, 1, 1, 0])) (y := (fcd Tryz.f57 [1, 0, 1, 0, 1, 1, 1, 1, 1, 1, 1])) ?_
          refine V_regionX Γ Δ [] [0, 2, 3, 4, 10, 14, 18, 23, 28] (evs ?_)
          all_goals (try with_reducible (repeat' (first | apply And.intro | intro _)))
          all_goals (try (first | with_reducible refine wa_id ?_ | exact True.intro | omega))
          refine V_cond (evs ?_)
          refine ⟨fun hc => ?_, fun hc => ?_⟩
          · refine WA_seq (x := (fcd Tryz.f57 [1, 0, 1, 0, 1, 1, 1, 1, 1, 1, 1, 0, 0])) (y := (fcd Tryz.f57 [1, 0, 1, 0, 1, 1, 1, 1, 1, 1, 1, 0, 1])) ?_
            refine V_regionX Γ Δ [] [0, 2, 3, 4, 10, 14, 18, 23, 28] (evs ?_)
            all_goals (try with_reducible (repeat' (first | apply And.intro | intro _)))
            all_goals (try (first | with_reducible refine wa_id ?_ | exact True.intro | omega))
            refine V_ret (evs ?_)
            first | (exfalso; omega) | (subst hc; rfl) | (subst k; rfl) | (rw [spL, if_neg (by omega), if_neg (by omega), if_neg (by omega), if_neg (by omega), if_neg (by omega), if_neg (by omega)]; rfl)
          · refine WA_seq (x := (fcd Tryz.f57 [1, 0, 1, 0, 1, 1, 1, 1, 1, 1, 1, 1, 0])) (y := (fcd Tryz.f57 [1, 0, 1, 0, 1, 1, 1, 1, 1, 1, 1, 1, 1])) ?_
            refine V_regionX Γ Δ [] [0, 2, 3, 4, 10, 14, 18, 23, 28] (evs ?_)
            all_goals (try with_reducible (repeat' (first | apply And.intro | intro _)))
            all_goals (try (first | with_reducible refine wa_id ?_ | exact True.intro | omega))
            refine V_cond (evs ?_)
            refine ⟨fun hc => ?_, fun hc => ?_⟩
            · refine WA_seq (x := (fcd Tryz.f57 [1, 0, 1, 0, 1, 1, 1, 1, 1, 1, 1, 1, 1, 0, 0])) (y := (fcd Tryz.f57 [1, 0, 1, 0, 1, 1, 1, 1, 1, 1, 1, 1, 1, 0, 1])) ?_
              refine V_regionX Γ Δ [] [0, 2, 3, 4, 10, 14, 18, 23, 28] (evs ?_)
              all_goals (try with_reducible (repeat' (first | apply And.intro | intro _)))
              all_goals (try (first | with_reducible refine wa_id ?_ | exact True.intro | omega))
              refine V_ret (evs ?_)
              first | (exfalso; omega) | (subst hc; rfl) | (subst k; rfl) | (rw [spL, if_neg (by omega), if_neg (by omega), if_neg (by omega), if_neg (by omega), if_neg (by omega), if_neg (by omega)]; rfl)
            · refine WA_seq (x := (fcd Tryz.f57 [1, 0, 1, 0, 1, 1, 1, 1, 1, 1, 1, 1, 1, 1, 0])) (y := (fcd Tryz.f57 [1, 0, 1, 0, 1, 1, 1, 1, 1, 1, 1, 1, 1, 1, 1])) ?_
              refine V_regionX Γ Δ [] [0, 2, 3, 4, 10, 14, 18, 23, 28] (evs ?_)
              all_goals (try with_reducible (repeat' (first | apply And.intro | intro _)))
              all_goals (try (first | with_reducible refine wa_id ?_ | exact True.intro | omega))
              refine V_cond (evs ?_)
              refine ⟨fun hc => ?_, fun hc => ?_⟩
              · refine WA_seq (x := (fcd Tryz.f57 [1, 0, 1, 0, 1, 1, 1, 1, 1, 1, 1, 1, 1, 1, 1, 0, 0])) (y := (fcd Tryz.f57 [1, 0, 1, 0, 1, 1, 1, 1, 1, 1, 1, 1, 1, 1, 1, 0, 1])) ?_
                refine V_regionX Γ Δ [] [0, 2, 3, 4, 10, 14, 18, 23, 28] (evs ?_)
                all_goals (try with_reducible (repeat' (first | apply And.intro | intro _)))
                all_goals (try (first | with_reducible refine wa_id ?_ | exact True.intro | omega))
                refine V_ret (evs ?_)
                first | (exfalso; omega) | (subst hc; rfl) | (subst k; rfl) | (rw [spL, if_neg (by omega), if_neg (by omega), if_neg (by omega), if_neg (by omega), if_neg (by omega), if_neg (by omega)]; rfl)
              · refine WA_skip ?_
                refine WA_seq (x := (fcd Tryz.f57 [1, 1, 0])) (y := (fcd Tryz.f57 [1, 1, 1])) ?_
                refine V_regionX Γ Δ [] [0, 2, 3, 4, 10, 14, 18, 23, 28] (evs ?_)
                all_goals (try with_reducible (repeat' (first | apply And.intro | intro _)))
                all_goals (try (first | with_reducible refine wa_id ?_ | exact True.intro | omega))
                refine V_ret (evs ?_)
                first | (exfalso; omega) | (subst hc; rfl) | (subst k; rfl) | (rw [spL, if_neg (by omega), if_neg (by omega), if_neg (by omega), if_neg (by omega), if_neg (by omega), if_neg (by omega)]; rfl)
  · refine WA_seq (x := (fcd Tryz.f57 [1, 0, 1, 0, 0, 1, 1, 0])) (y := (fcd Tryz.f57 [1, 0, 1, 0, 0, 1, 1, 1])) ?_
    refine V_regionX Γ Δ [] [0, 2, 3, 4, 10, 14, 18, 23, 28] (evs ?_)
    all_goals (try with_reducible (repeat' (first | apply And.intro | intro _)))
    all_goals (try (first | with_reducible refine wa_id ?_ | exact True.intro | omega))
    refine V_cond (evs ?_)
    refine ⟨fun hc => ?_, fun hc => ?_⟩
    · refine WA_skip ?_
      refine V_cond (evs ?_)
      refine ⟨fun hc => ?_, fun hc => ?_⟩
      · refine WA_seq (x := (fcd Tryz.f57 [1, 0, 1, 0, 1, 0, 0])) (y := (fcd Tryz.f57 [1, 0, 1, 0, 1, 0, 1])) ?_
        refine V_regionX Γ Δ [] [0, 2, 3, 4, 10, 14, 18, 23, 28] (evs ?_)
        all_goals (try with_reducible (repeat' (first | apply And.intro | intro _)))
        all_goals (try (first | with_reducible refine wa_id ?_ | exact True.intro | omega))
        refine V_ret (evs ?_)
        first | (exfalso; omega) | (subst hc; rfl) | (subst k; rfl) | (rw [spL, if_neg (by omega), if_neg (by omega), if_neg (by omega), if_neg (by omega), if_neg (by omega), if_neg (by omega)]; rfl)
      · refine WA_seq (x := (fcd Tryz.f57 [1, 0, 1, 0, 1, 1, 0])) (y := (fcd Tryz.f57 [1, 0, 1, 0, 1, 1, 1])) ?_
        refine V_regionX Γ Δ [] [0, 2, 3, 4, 10, 14, 18, 23, 28] (evs ?_)
        all_goals (try with_reducible (repeat' (first | apply And.intro | intro _)))
        all_goals (try (first | with_reducible refine wa_id ?_ | exact True.intro | omega))
        refine V_cond (evs ?_)
        refine ⟨fun hc => ?_, fun hc => ?_⟩
        · refine WA_seq (x := (fcd Tryz.f57 [1, 0, 1, 0, 1, 1, 1, 0, 0])) (y := (fcd Tryz.f57 [1, 0, 1, 0, 1, 1, 1, 0, 1])) ?_
          refine V_regionX Γ Δ [] [0, 2, 3, 4, 10, 14, 18, 23, 28] (evs ?_)
          all_goals (try with_reducible (repeat' (first | apply And.intro | intro _)))
          all_goals (try (first | with_reducible refine wa_id ?_ | exact True.intro | omega))
          refine V_ret (evs ?_)
          first | (exfalso; omega) | (subst hc; rfl) | (subst k; rfl) | (rw [spL, if_neg (by omega), if_neg (by omega), if_neg (by omega), if_neg (by omega), if_neg (by omega), if_neg (by omega)]; rfl)
        · refine WA_seq (x := (fcd Tryz.f57 [1, 0, 1, 0, 1, 1, 1, 1, 0])) (y := (fcd Tryz.f57 [1, 0, 1, 0, 1, 1, 1, 1, 1])) ?_
          refine V_regionX Γ Δ [] [0, 2, 3, 4, 10, 14, 18, 23, 28] (evs ?_)
          all_goals (try with_reducible (repeat' (first | apply And.intro | intro _)))
          all_goals (try (first | with_reducible refine wa_id ?_ | exact True.intro | omega))
          refine V_cond (evs ?_)
          refine ⟨fun hc => ?_, fun hc => ?_⟩
          · refine WA_seq (x := (fcd Tryz.f57 [1, 0, 1, 0, 1, 1, 1, 1, 1, 0, 0])) (y := (fcd Tryz.f57 [1, 0, 1, 0, 1, 1, 1, 1, 1, 0, 1])) ?_
            refine V_regionX Γ Δ [] [0, 2, 3, 4, 10, 14, 18, 23, 28] (evs ?_)
            all_goals (try with_reducible (repeat' (first | apply And.intro | intro _)))
            all_goals (try (first | with_reducible refine wa_id ?_ | exact True.intro | omega))
            refine V_ret (evs ?_)
            first | (exfalso; omega) | (subst hc; rfl) | (subst k; rfl) | (rw [spL, if_neg (by omega), if_neg (by omega), if_neg (by omega), if_neg (by omega), if_neg (by omega), if_neg (by omega)]; rfl)
          · refine WA_seq (x := (fcd Tryz.f57 [1, 0, 1, 0, 1, 1, 1, 1, 1, 1, 0])) (y := (fcd Tryz.f57 [1, 0, 1, 0, 1, 1, 1, 1, 1, 1, 1])) ?_
            refine V_regionX Γ Δ [] [0, 2, 3, 4, 10, 14, 18, 23, 28] (evs ?_)
            all_goals (try with_reducible (repeat' (first | apply And.intro | intro _)))
            all_goals (try (first | with_reducible refine wa_id ?_ | exact True.intro | omega))
            refine V_cond (evs ?_)
            refine ⟨fun hc => ?_, fun hc => ?_⟩
            · refine WA_seq (x := (fcd Tryz.f57 [1, 0, 1, 0, 1, 1, 1, 1, 1, 1, 1, 0, 0])) (y := (fcd Tryz.f57 [1, 0, 1, 0, 1, 1, 1, 1, 1, 1, 1, 0, 1])) ?_
              refine V_regionX Γ Δ [] [0, 2, 3, 4, 10, 14, 18, 23, 28] (evs ?_)
              all_goals (try with_reducible (repeat' (first | apply And.intro | intro _)))
              all_goals (try (first | with_reducible refine wa_id ?_ | exact True.intro | omega))
              refine V_ret (evs ?_)
              first | (exfalso; omega) | (subst hc; rfl) | (subst k; rfl) | (rw [spL, if_neg (by omega), if_neg (by omega), if_neg (by omega), if_neg (by omega), if_neg (by omega), if_neg (by omega)]; rfl)
            · refine WA_seq (x := (fcd Tryz.f57 [1, 0, 1, 0, 1, 1, 1, 1, 1, 1, 1, 1, 0])) (y := (fcd Tryz.f57 [1, 0, 1, 0, 1, 1, 1, 1, 1, 1, 1, 1, 1])) ?_
              refine V_regionX Γ Δ [] [0, 2, 3, 4, 10, 14, 18, 23, 28] (evs ?_)
              all_goals (try with_reducible (repeat' (first | apply And.intro | intro _)))
              all_goals (try (first | with_reducible refine wa_id ?_ | exact True.intro | omega))
              refine V_cond (evs ?_)
              refine ⟨fun hc => ?_, fun hc => ?_⟩
              · refine WA_seq (x := (fcd Tryz.f57 [1, 0, 1, 0, 1, 1, 1, 1, 1, 1, 1, 1, 1, 0, 0])) (y := (fcd Tryz.f57 [1, 0, 1, 0, 1, 1, 1, 1, 1, 1, 1, 1, 1, 0, 1])) ?_
                refine V_regionX Γ Δ [] [0, 2, 3, 4, 10, 14, 18, 23, 28] (evs ?_)
                all_goals (try with_reducible (repeat' (first | apply And.intro | intro _)))
                all_goals (try (first | with_reducible refine wa_id ?_ | exact True.intro | omega))
                refine V_ret (evs ?_)
                first | (exfalso; omega) | (subst hc; rfl) | (subst k; rfl) | (rw [spL, if_neg (by omega), if_neg (by omega), if_neg (by omega), if_neg (by omega), if_neg (by omega), if_neg (by omega)]; rfl)
              · refine WA_seq (x := (fcd Tryz.f57 [1, 0, 1, 0, 1, 1, 1, 1, 1, 1, 1, 1, 1, 1, 0])) (y := (fcd Tryz.f57 [1, 0, 1, 0, 1, 1, 1, 1, 1, 1, 1, 1, 1, 1, 1])) ?_
                refine V_regionX Γ Δ [] [0, 2, 3, 4, 10, 14, 18, 23, 28] (evs ?_)
                all_goals (try with_reducible (repeat' (first | apply And.intro | intro _)))
                all_goals (try (first | with_reducible refine wa_id ?_ | exact True.intro | omega))
                refine V_cond (evs ?_)
                refine ⟨fun hc => ?_, fun hc => ?_⟩
                · refine WA_seq (x := (fcd Tryz.f57 [1, 0, 1, 0, 1, 1, 1, 1, 1, 1, 1, 1, 1, 1, 1, 0, 0])) (y := (fcd Tryz.f57 [1, 0, 1, 0, 1, 1, 1, 1, 1, 1, 1, 1, 1, 1, 1, 0, 1])) ?_
                  refine V_regionX Γ Δ [] [0, 2, 3, 4, 10, 14, 18, 23, 28] (evs ?_)
                  all_goals (try with_reducible (repeat' (first | apply And.intro | intro _)))
                  all_goals (try (first | with_reducible refine wa_id ?_ | exact True.intro | omega))
                  refine V_ret (evs ?_)
                  first | (exfalso; omega) | (subst hc; rfl) | (subst k; rfl) | (rw [spL, if_neg (by omega), if_neg (by omega), if_neg (by omega), if_neg (by omega), if_neg (by omega), if_neg (by omega)]; rfl)
                · refine WA_skip ?_
                  refine WA_seq (x := (fcd Tryz.f57 [1, 1, 0])) (y := (fcd Tryz.f57 [1, 1, 1])) ?_
                  refine V_regionX Γ Δ [] [0, 2, 3, 4, 10, 14, 18, 23, 28] (evs ?_)
                  all_goals (try with_reducible (repeat' (first | apply And.intro | intro _)))
                  all_goals (try (first | with_reducible refine wa_id ?_ | exact True.intro | omega))
                  refine V_ret (evs ?_)
                  first | (exfalso; omega) | (subst hc; rfl) | (subst k; rfl) | (rw [spL, if_neg (by omega), if_neg (by omega), if_neg (by omega), if_neg (by omega), if_neg (by omega), if_neg (by omega)]; rfl)
    · refine V_regionX Γ Δ [] [0, 2, 3, 4, 10, 14, 18, 23, 28] (evs ?_)
      all_goals (try with_reducible (repeat' (first | apply And.intro | intro _)))
      all_goals (try (first | with_reducible refine wa_id ?_ | exact True.intro | omega))
      refine V_cond (evs ?_)
      refine ⟨fun hc => ?_, fun hc => ?_⟩
      · refine WA_seq (x := (fcd Tryz.f57 [1, 0, 1, 0, 1, 0, 0])) (y := (fcd Tryz.f57 [1, 0, 1, 0, 1, 0, 1])) ?_
        refine V_regionX Γ Δ [] [0, 2, 3, 4, 10, 14, 18, 23, 28] (evs ?_)
        all_goals (try with_reducible (repeat' (first | apply And.intro | intro _)))
        all_goals (try (first | with_reducible refine wa_id ?_ | exact True.intro | omega))
        refine V_ret (evs ?_)
        first | (exfalso; omega) | (subst hc; rfl) | (subst k; rfl) | (rw [spL, if_neg (by omega), if_neg (by omega), if_neg (by omega), if_neg (by omega), if_neg (by omega), if_neg (by omega)]; rfl)
      · refine WA_seq (x := (fcd Tryz.f57 [1, 0, 1, 0, 1, 1, 0])) (y := (fcd Tryz.f57 [1, 0, 1, 0, 1, 1, 1])) ?_
        refine V_regionX Γ Δ [] [0, 2, 3, 4, 10, 14, 18, 23, 28] (evs ?_)
        all_goals (try with_reducible (repeat' (first | apply And.intro | intro _)))
        all_goals (try (first | with_reducible refine wa_id ?_ | exact True.intro | omega))
        refine V_cond (evs ?_)
        refine ⟨fun hc => ?_, fun hc => ?_⟩
        · refine WA_seq (x := (fcd Tryz.f57 [1, 0, 1, 0, 1, 1, 1, 0, 0])) (y := (fcd Tryz.f57 [1, 0, 1, 0, 1, 1, 1, 0, 1])) ?_
          refine V_regionX Γ Δ [] [0, 2, 3, 4, 10, 14, 18, 23, 28] (evs ?_)
          all_goals (try with_reducible (repeat' (first | apply And.intro | intro _)))
          all_goals (try (first | with_reducible refine wa_id ?_ | exact True.intro | omega))
          refine V_ret (evs ?_)
          first | (exfalso; omega) | (subst hc; rfl) | (subst k; rfl) | (rw [spL, if_neg (by omega), if_neg (by omega), if_neg (by omega), if_neg (by omega), if_neg (by omega), if_neg (by omega)]; rfl)
        · refine WA_seq (x := (fcd Tryz.f57 [1, 0, 1, 0, 1, 1, 1, 1, 0])) (y := (fcd Tryz.f57 [1, 0, 1, 0, 1, 1, 1, 1, 1])) ?_
          refine V_regionX Γ Δ [] [0, 2, 3, 4, 10, 14, 18, 23, 28] (evs ?_)
          all_goals (try with_reducible (repeat' (first | apply And.intro | intro _)))
          all_goals (try (first | with_reducible refine wa_id ?_ | exact True.intro | omega))
          refine V_cond (evs ?_)
          refine ⟨fun hc => ?_, fun hc => ?_⟩
          · refine WA_seq (x := (fcd Tryz.f57 [1, 0, 1, 0, 1, 1, 1, 1, 1, 0, 0])) (y := (fcd Tryz.f57 [1, 0, 1, 0, 1, 1, 1, 1, 1, 0, 1])) ?_
            refine V_regionX Γ Δ [] [0, 2, 3, 4, 10, 14, 18, 23, 28] (evs ?_)
            all_goals (try with_reducible (repeat' (first | apply And.intro | intro _)))
            all_goals (try (first | with_reducible refine wa_id ?_ | exact True.intro | omega))
            refine V_ret (evs ?_)
            first | (exfalso; omega) | (subst hc; rfl) | (subst k; rfl) | (rw [spL, if_neg (by omega), if_neg (by omega), if_neg (by omega), if_neg (by omega), if_neg (by omega), if_neg (by omega)]; rfl)
          · refine WA_seq (x := (fcd Tryz.f57 [1, 0, 1, 0, 1, 1, 1, 1, 1, 1, 0])) (y := (fcd Tryz.f57 [1, 0, 1, 0, 1, 1, 1, 1, 1, 1, 1])) ?_
            refine V_regionX Γ Δ [] [0, 2, 3, 4, 10, 14, 18, 23, 28] (evs ?_)
            all_goals (try with_reducible (repeat' (first | apply And.intro | intro _)))
            all_goals (try (first | with_reducible refine wa_id ?_ | exact True.intro | omega))
            refine V_cond (evs ?_)
            refine ⟨fun hc => ?_, fun hc => ?_⟩
            · refine WA_seq (x := (fcd Tryz.f57 [1, 0, 1, 0, 1, 1, 1, 1, 1, 1, 1, 0, 0])) (y := (fcd Tryz.f57 [1, 0, 1, 0, 1, 1, 1, 1, 1, 1, 1, 0, 1])) ?_
              refine V_regionX Γ Δ [] [0, 2, 3, 4, 10, 14, 18, 23, 28] (evs ?_)
              all_goals (try with_reducible (repeat' (first | apply And.intro | intro _)))
              all_goals (try (first | with_reducible refine wa_id ?_ | exact True.intro | omega))
              refine V_ret (evs ?_)
              first | (exfalso; omega) | (subst hc; rfl) | (subst k; rfl) | (rw [spL, if_neg (by omega), if_neg (by omega), if_neg (by omega), if_neg (by omega), if_neg (by omega), if_neg (by omega)]; rfl)
            · refine WA_seq (x := (fcd Tryz.f57 [1, 0, 1, 0, 1, 1, 1, 1, 1, 1, 1, 1, 0])) (y := (fcd Tryz.f57 [1, 0, 1, 0, 1, 1, 1, 1, 1, 1, 1, 1, 1])) ?_
              refine V_regionX Γ Δ [] [0, 2, 3, 4, 10, 14, 18, 23, 28] (evs ?_)
              all_goals (try with_reducible (repeat' (first | apply And.intro | intro _)))
              all_goals (try (first | with_reducible refine wa_id ?_ | exact True.intro | omega))
              refine V_cond (evs ?_)
              refine ⟨fun hc => ?_, fun hc => ?_⟩
              · refine WA_seq (x := (fcd Tryz.f57 [1, 0, 1, 0, 1, 1, 1, 1, 1, 1, 1, 1, 1, 0, 0])) (y := (fcd Tryz.f57 [1, 0, 1, 0, 1, 1, 1, 1, 1, 1, 1, 1, 1, 0, 1])) ?_
                refine V_regionX Γ Δ [] [0, 2, 3, 4, 10, 14, 18, 23, 28] (evs ?_)
                all_goals (try with_reducible (repeat' (first | apply And.intro | intro _)))
                all_goals (try (first | with_reducible refine wa_id ?_ | exact True.intro | omega))
                refine V_ret (evs ?_)
                first | (exfalso; omega) | (subst hc; rfl) | (subst k; rfl) | (rw [spL, if_neg (by omega), if_neg (by omega), if_neg (by omega), if_neg (by omega), if_neg (by omega), if_neg (by omega)]; rfl)
              · refine WA_seq (x := (fcd Tryz.f57 [1, 0, 1, 0, 1, 1, 1, 1, 1, 1, 1, 1, 1, 1, 0])) (y := (fcd Tryz.f57 [1, 0, 1, 0, 1, 1, 1, 1, 1, 1, 1, 1, 1, 1, 1])) ?_
                refine V_regionX Γ Δ [] [0, 2, 3, 4, 10, 14, 18, 23, 28] (evs ?_)
                all_goals (try with_reducible (repeat' (first | apply And.intro | intro _)))
                all_goals (try (first | with_reducible refine wa_id ?_ | exact True.intro | omega))
                refine V_cond (evs ?_)
                refine ⟨fun hc => ?_, fun hc => ?_⟩
                · refine WA_seq (x := (fcd Tryz.f57 [1, 0, 1, 0, 1, 1, 1, 1, 1, 1, 1, 1, 1, 1, 1, 0, 0])) (y := (fcd Tryz.f57 [1, 0, 1, 0, 1, 1, 1, 1, 1, 1, 1, 1, 1, 1, 1, 0, 1])) ?_
                  refine V_regionX Γ Δ [] [0, 2, 3, 4, 10, 14, 18, 23, 28] (evs ?_)
                  all_goals (try with_reducible (repeat' (first | apply And.intro | intro _)))
                  all_goals (try (first | with_reducible refine wa_id ?_ | exact True.intro | omega))
                  refine V_ret (evs ?_)
                  first | (exfalso; omega) | (subst hc; rfl) | (subst k; rfl) | (rw [spL, if_neg (by omega), if_neg (by omega), if_neg (by omega), if_neg (by omega), if_neg (by omega), if_neg (by omega)]; rfl)
                · refine WA_skip ?_
                  refine WA_seq (x := (fcd Tryz.f57 [1, 1, 0])) (y := (fcd Tryz.f57 [1, 1, 1])) ?_
                  refine V_regionX Γ Δ [] [0, 2, 3, 4, 10, 14, 18, 23, 28] (evs ?_)
                  all_goals (try with_reducible (repeat' (first | apply And.intro | intro _)))
                  all_goals (try (first | with_reducible refine wa_id ?_ | exact True.intro | omega))
                  refine V_ret (evs ?_)
                  first | (exfalso; omega) | (subst hc; rfl) | (subst k; rfl) | (rw [spL, if_neg (by omega), if_neg (by omega), if_neg (by omega), if_neg (by omega), if_neg (by omega), if_neg (by omega)]; rfl)

theorem fcheck_fn (k : Int) (ps : List Int) : Eng.Fn Tryz.prog 19 [.i k, .sl 1 (ps.map iC)] (.dat (.i (fchkE k ps))) := by
  refine Eng.Fn.by (fn := Tryz.f19) 45 [.tmp 4] Tryz.func19 rfl Tryz.ntmps19 rfl (by simp) fun w0 G0 => ?_
  refine WA_seq (x := (fcd Tryz.f19 [0])) (y := (fcd Tryz.f19 [1])) ?_
  refine V_regionX Γ Δ [15] [0, 1, 4, 5, 6, 7, 13, 20, 21, 22, 23, 24, 43] (evs ?_)
  all_goals (try with_reducible (repeat' (first | apply And.intro | intro _)))
  all_goals (try (first | with_reducible refine wa_id ?_ | exact True.intro | omega | exact Or.inr (plPt _) | exact plPt _))
  refine WA_seq (x := (fcd Tryz.f19 [1, 0])) (y := (fcd Tryz.f19 [1, 1])) ?_
  refine WA_seq (x := (fcd Tryz.f19 [1, 0, 0])) (y := (fcd Tryz.f19 [1, 0, 1])) ?_
  refine V_regionX Γ Δ [15] [0, 1, 4, 5, 6, 7, 13, 20, 21, 22, 23, 24, 43] (evs ?_)
  all_goals (try with_reducible (repeat' (first | apply And.intro | intro _)))
  all_goals (try (first | with_reducible refine wa_id ?_ | exact True.intro | omega | exact Or.inr (plPt _) | exact plPt _))
  refine V_cond (evs ?_)
  refine ⟨fun hc => ?_, fun hc => ?_⟩
  · refine WA_seq (x := (fcd Tryz.f19 [1, 0, 1, 0, 0])) (y := (fcd Tryz.f19 [1, 0, 1, 0, 1])) ?_
    refine V_regionX Γ Δ [15] [0, 1, 4, 5, 6, 7, 13, 20, 21, 22, 23, 24, 43] (evs ?_)
    all_goals (try with_reducible (repeat' (first | apply And.intro | intro _)))
    all_goals (try (first | with_reducible refine wa_id ?_ | exact True.intro | omega | exact Or.inr (plPt _) | exact plPt _))
    refine V_ret (evs ?_)
    first | exact fk1 hc | exact fk2 ‹_› hc | exact fk3 ‹_› ‹_› ‹(j : Int) < _› hc | exact fk4 ‹_› ‹_› hI.2 hc
  · refine WA_skip ?_
    refine WA_seq (x := (fcd Tryz.f19 [1, 1, 0])) (y := (fcd Tryz.f19 [1, 1, 1])) ?_
    refine V_regionX Γ Δ [15] [0, 1, 4, 5, 6, 7, 13, 20, 21, 22, 23, 24, 43] (evs ?_)
    all_goals (try with_reducible (repeat' (first | apply And.intro | intro _)))
    all_goals (try (first | with_reducible refine wa_id ?_ | exact True.intro | exact spans_fn _ | omega | exact Or.inr (plPt _) | exact plPt _))
    refine WA_seq (x := (fcd Tryz.f19 [1, 1, 1, 0])) (y := (fcd Tryz.f19 [1, 1, 1, 1])) ?_
    refine WA_seq (x := (fcd Tryz.f19 [1, 1, 1, 0, 0])) (y := (fcd Tryz.f19 [1, 1, 1, 0, 1])) ?_
    refine V_regionX Γ Δ [15] [0, 1, 4, 5, 6, 7, 13, 20, 21, 22, 23, 24, 43] (evs ?_)
    all_goals (try with_reducible (repeat' (first | apply And.intro | intro _)))
    all_goals (try (first | with_reducible refine wa_id ?_ | exact True.intro | omega | exact Or.inr (plPt _) | exact plPt _))
    refine V_cond (evs ?_)
    refine ⟨fun hc => ?_, fun hc => ?_⟩
    · refine WA_seq (x := (fcd Tryz.f19 [1, 1, 1, 0, 1, 0, 0])) (y := (fcd Tryz.f19 [1, 1, 1, 0, 1, 0, 1])) ?_
      refine V_regionX Γ Δ [15] [0, 1, 4, 5, 6, 7, 13, 20, 21, 22, 23, 24, 43] (evs ?_)
      all_goals (try with_reducible (repeat' (first | apply And.intro | intro _)))
      all_goals (try (first | with_reducible refine wa_id ?_ | exact True.intro | omega | exact Or.inr (plPt _) | exact plPt _))
      refine V_ret (evs ?_)
      first | exact fk1 hc | exact fk2 ‹_› hc | exact fk3 ‹_› ‹_› ‹(j : Int) < _› hc | exact fk4 ‹_› ‹_› hI.2 hc
    · refine WA_skip ?_
      refine WA_seq (x := (fcd Tryz.f19 [1, 1, 1, 1, 0])) (y := (fcd Tryz.f19 [1, 1, 1, 1, 1])) ?_
      refine WA_seq (x := (fcd Tryz.f19 [1, 1, 1, 1, 0, 0])) (y := (fcd Tryz.f19 [1, 1, 1, 1, 0, 1])) ?_
      refine V_regionX Γ Δ [15] [0, 1, 4, 5, 6, 7, 13, 20, 21, 22, 23, 24, 43] (evs ?_)
      all_goals (try with_reducible (repeat' (first | apply And.intro | intro _)))
      all_goals (try (first | with_reducible refine wa_id ?_ | exact True.intro | omega | exact Or.inr (plPt _) | exact plPt _))
      refine WA_block (c := (fcd Tryz.f19 [1, 1, 1, 1, 0, 1, 0])) ?_
      refine V_loop (c := (fcd Tryz.f19 [1, 1, 1, 1, 0, 1, 0, 0])) (α := Nat) [4, 6, 7, 23, 24, 43] [] (fun j => [(23, .dat (.i (j : Int)))]) (fun j => []) (fun j => j ≤ ps.length ∧ okPs (spL k) ps j = true) (fun j => ps.length - j) 0 [] ?_ (evs ?_) ?_
      · exact ⟨Nat.zero_le _, rfl⟩
      · (try with_reducible (repeat' (first | apply And.intro | intro _)))
        all_goals (first | exact True.intro | omega | (first | rfl))
      · intro j hI
        refine WA_seq (x := (fcd Tryz.f19 [1, 1, 1, 1, 0, 1, 0, 0, 0])) (y := (fcd Tryz.f19 [1, 1, 1, 1, 0, 1, 0, 0, 1])) ?_
        refine V_regionX Γ Δ [15] [0, 1, 4, 5, 6, 7, 13, 20, 21, 22, 23, 24, 43] (evs ?_)
        all_goals (try with_reducible (repeat' (first | apply And.intro | intro _)))
        all_goals (try (first | with_reducible refine wa_id ?_ | exact True.intro | omega | exact Or.inr (plPt _) | exact plPt _))
        refine WA_seq (x := (fcd Tryz.f19 [1, 1, 1, 1, 0, 1, 0, 0, 1, 0])) (y := (fcd Tryz.f19 [1, 1, 1, 1, 0, 1, 0, 0, 1, 1])) ?_
        refine V_cond (evs ?_)
        refine ⟨fun hc => ?_, fun hc => ?_⟩
        · refine WA_skip ?_
          refine WA_seq (x := (fcd Tryz.f19 [1, 1, 1, 1, 0, 1, 0, 0, 1, 1, 0])) (y := (fcd Tryz.f19 [1, 1, 1, 1, 0, 1, 0, 0, 1, 1, 1])) ?_
          refine WA_block (c := (fcd Tryz.f19 [1, 1, 1, 1, 0, 1, 0, 0, 1, 1, 0, 0])) ?_
          refine WA_seq (x := (fcd Tryz.f19 [1, 1, 1, 1, 0, 1, 0, 0, 1, 1, 0, 0, 0])) (y := (fcd Tryz.f19 [1, 1, 1, 1, 0, 1, 0, 0, 1, 1, 0, 0, 1])) ?_
          refine V_regionX Γ Δ [15] [0, 1, 4, 5, 6, 7, 13, 20, 21, 22, 23, 24, 43] (evs ?_)
          all_goals (try with_reducible (repeat' (first | apply And.intro | intro _)))
          all_goals (try (first | with_reducible refine wa_id ?_ | exact True.intro | omega | exact Or.inr (plPt _) | exact plPt _))
          refine WA_seq (x := (fcd Tryz.f19 [1, 1, 1, 1, 0, 1, 0, 0, 1, 1, 0, 0, 1, 0])) (y := (fcd Tryz.f19 [1, 1, 1, 1, 0, 1, 0, 0, 1, 1, 0, 0, 1, 1])) ?_
          refine V_regionX Γ Δ [15] [0, 1, 4, 5, 6, 7, 13, 20, 21, 22, 23, 24, 43] (evs ?_)
          have hl : j < (spL k).length := by omega
          all_goals (try with_reducible (repeat' (first | apply And.intro | intro _)))
          all_goals (try (first | with_reducible refine wa_id ?_ | exact True.intro | omega | exact Or.inr (plPt _) | exact plPt _))
          refine V_cond (evs ?_)
          refine ⟨fun hc => ?_, fun hc => ?_⟩
          · refine WA_seq (x := (fcd Tryz.f19 [1, 1, 1, 1, 0, 1, 0, 0, 1, 1, 0, 0, 1, 1, 0, 0])) (y := (fcd Tryz.f19 [1, 1, 1, 1, 0, 1, 0, 0, 1, 1, 0, 0, 1, 1, 0, 1])) ?_
            refine V_regionX Γ Δ [15] [0, 1, 4, 5, 6, 7, 13, 20, 21, 22, 23, 24, 43] (evs ?_)
            all_goals (try with_reducible (repeat' (first | apply And.intro | intro _)))
            all_goals (try (first | with_reducible refine wa_id ?_ | exact True.intro | omega | exact Or.inr (plPt _) | exact plPt _))
            refine V_ret (evs ?_)
            first | exact fk1 hc | exact fk2 ‹_› hc | exact fk3 ‹_› ‹_› ‹(j : Int) < _› hc | exact fk4 ‹_› ‹_› hI.2 hc
          · refine WA_skip ?_
            refine V_regionX Γ Δ [15] [0, 1, 4, 5, 6, 7, 13, 20, 21, 22, 23, 24, 43] (evs ?_)
            all_goals (try with_reducible (repeat' (first | apply And.intro | intro _)))
            all_goals (try (first | with_reducible refine wa_id ?_ | exact True.intro | omega | exact Or.inr (plPt _) | exact plPt _))
            refine V_next [] (j + 1) (evs ?_) ?_ ?_
            all_goals (try with_reducible (repeat' (first | apply And.intro | intro _)))
            all_goals (first | exact True.intro | omega | (first | exact w64l ‹(j : Int) < _› ‹ps.length ≤ 281474976710656› | exact fk5 hI.2 hc))
        · refine V_exit (evs ?_)
          refine WA_seq (x := (fcd Tryz.f19 [1, 1, 1, 1, 1, 0])) (y := (fcd Tryz.f19 [1, 1, 1, 1, 1, 1])) ?_
          refine V_regionX Γ Δ [15] [0, 1, 4, 5, 6, 7, 13, 20, 21, 22, 23, 24, 43] (evs ?_)
          all_goals (try with_reducible (repeat' (first | apply And.intro | intro _)))
          all_goals (try (first | with_reducible refine wa_id ?_ | exact True.intro | omega | exact Or.inr (plPt _) | exact plPt _))
          refine V_ret (evs ?_)
          first | exact fk1 hc | exact fk2 ‹_› hc | exact fk3 ‹_› ‹_› ‹(j : Int) < _› hc | exact fk4 ‹_› ‹_› hI.2 hc

theorem rin_fn (n a b : Int) : Eng.Fn Tryz.prog 59 [.i n, .i a, .i b] (.dat (.b (inSp n ⟨a, b⟩))) := by
  refine Eng.Fn.by (fn := Tryz.f59) 15 [.tmp 6] Tryz.func59 rfl Tryz.ntmps59 rfl (by simp) fun w0 G0 => ?_
  refine WA_seq (x := (fcd Tryz.f59 [0])) (y := (fcd Tryz.f59 [1])) ?_
  refine V_regionX Γ Δ [] [0, 1, 2, 6] (evs ?_)
  all_goals (try with_reducible (repeat' (first | apply And.intro | intro _)))
  all_goals (try (first | with_reducible refine wa_id ?_ | exact True.intro | omega))
  refine WA_seq (x := (fcd Tryz.f59 [1, 0])) (y := (fcd Tryz.f59 [1, 1])) ?_
  refine V_regionX Γ Δ [] [0, 1, 2, 6] (evs ?_)
  all_goals (try with_reducible (repeat' (first | apply And.intro | intro _)))
  all_goals (try (first | with_reducible refine wa_id ?_ | exact True.intro | omega))
  refine V_ret (evs ?_)
  first | rfl | (simp [inSp]; done)

theorem rcnt_fn (k : Int) : Eng.Fn Tryz.prog 60 [.i k] (.dat (.i (rcnt k))) := by
  refine Eng.Fn.by (fn := Tryz.f60) 10 [.tmp 2] Tryz.func60 rfl Tryz.ntmps60 rfl (by simp) fun w0 G0 => ?_
  refine WA_seq (x := (fcd Tryz.f60 [0])) (y := (fcd Tryz.f60 [1])) ?_
  refine V_regionX Γ Δ [] [0, 2, 3, 4, 7] (evs ?_)
  all_goals (try with_reducible (repeat' (first | apply And.intro | intro _)))
  all_goals (try (first | with_reducible refine wa_id ?_ | exact True.intro | omega))
  refine WA_seq (x := (fcd Tryz.f60 [1, 0])) (y := (fcd Tryz.f60 [1, 1])) ?_
  refine WA_seq (x := (fcd Tryz.f60 [1, 0, 0])) (y := (fcd Tryz.f60 [1, 0, 1])) ?_
  refine V_regionX Γ Δ [] [0, 2, 3, 4, 7] (evs ?_)
  all_goals (try with_reducible (repeat' (first | apply And.intro | intro _)))
  all_goals (try (first | with_reducible refine wa_id ?_ | exact True.intro | omega))
  refine WA_block (c := (fcd Tryz.f60 [1, 0, 1, 0])) ?_
  refine WA_seq (x := (fcd Tryz.f60 [1, 0, 1, 0, 0])) (y := (fcd Tryz.f60 [1, 0, 1, 0, 1])) ?_
  refine WA_seq (x := (fcd Tryz.f60 [1, 0, 1, 0, 0, 0])) (y := (fcd Tryz.f60 [1, 0, 1, 0, 0, 1])) ?_
  refine V_regionX Γ Δ [] [0, 2, 3, 4, 7] (evs ?_)
  all_goals (try with_reducible (repeat' (first | apply And.intro | intro _)))
  all_goals (try (first | with_reducible refine wa_id ?_ | exact True.intro | omega))
  refine V_cond (evs ?_)
  refine ⟨fun hc => ?_, fun hc => ?_⟩
  · refine WA_skip ?_
    refine V_cond (evs ?_)
    refine ⟨fun hc => ?_, fun hc => ?_⟩
    · refine WA_seq (x := (fcd Tryz.f60 [1, 0, 1, 0, 1, 0, 0])) (y := (fcd Tryz.f60 [1, 0, 1, 0, 1, 0, 1])) ?_
      refine V_regionX Γ Δ [] [0, 2, 3, 4, 7] (evs ?_)
      all_goals (try with_reducible (repeat' (first | apply And.intro | intro _)))
      all_goals (try (first | with_reducible refine wa_id ?_ | exact True.intro | omega))
      refine V_ret (evs ?_)
      first | (exfalso; omega) | (subst hc; rfl) | (subst k; rfl) | (rw [rcnt, if_neg (by omega), if_neg (by omega)])
    · refine WA_seq (x := (fcd Tryz.f60 [1, 0, 1, 0, 1, 1, 0])) (y := (fcd Tryz.f60 [1, 0, 1, 0, 1, 1, 1])) ?_
      refine WA_seq (x := (fcd Tryz.f60 [1, 0, 1, 0, 1, 1, 0, 0])) (y := (fcd Tryz.f60 [1, 0, 1, 0, 1, 1, 0, 1])) ?_
      refine V_regionX Γ Δ [] [0, 2, 3, 4, 7] (evs ?_)
      all_goals (try with_reducible (repeat' (first | apply And.intro | intro _)))
      all_goals (try (first | with_reducible refine wa_id ?_ | exact True.intro | omega))
      refine V_cond (evs ?_)
      refine ⟨fun hc => ?_, fun hc => ?_⟩
      · refine WA_skip ?_
        refine V_cond (evs ?_)
        refine ⟨fun hc => ?_, fun hc => ?_⟩
        · refine WA_seq (x := (fcd Tryz.f60 [1, 0, 1, 0, 1, 1, 1, 0, 0])) (y := (fcd Tryz.f60 [1, 0, 1, 0, 1, 1, 1, 0, 1])) ?_
          refine V_regionX Γ Δ [] [0, 2, 3, 4, 7] (evs ?_)
          all_goals (try with_reducible (repeat' (first | apply And.intro | intro _)))
          all_goals (try (first | with_reducible refine wa_id ?_ | exact True.intro | omega))
          refine V_ret (evs ?_)
          first | (exfalso; omega) | (subst hc; rfl) | (subst k; rfl) | (rw [rcnt, if_neg (by omega), if_neg (by omega)])
        · refine WA_skip ?_
          refine WA_seq (x := (fcd Tryz.f60 [1, 1, 0])) (y := (fcd Tryz.f60 [1, 1, 1])) ?_
          refine V_regionX Γ Δ [] [0, 2, 3, 4, 7] (evs ?_)
          all_goals (try with_reducible (repeat' (first | apply And.intro | intro _)))
          all_goals (try (first | with_reducible refine wa_id ?_ | exact True.intro | omega))
          refine V_ret (evs ?_)
          first | (exfalso; omega) | (subst hc; rfl) | (subst k; rfl) | (rw [rcnt, if_neg (by omega), if_neg (by omega)])
      · refine V_regionX Γ Δ [] [0, 2, 3, 4, 7] (evs ?_)
        all_goals (try with_reducible (repeat' (first | apply And.intro | intro _)))
        all_goals (try (first | with_reducible refine wa_id ?_ | exact True.intro | omega))
        refine V_cond (evs ?_)
        refine ⟨fun hc => ?_, fun hc => ?_⟩
        · refine WA_seq (x := (fcd Tryz.f60 [1, 0, 1, 0, 1, 1, 1, 0, 0])) (y := (fcd Tryz.f60 [1, 0, 1, 0, 1, 1, 1, 0, 1])) ?_
          refine V_regionX Γ Δ [] [0, 2, 3, 4, 7] (evs ?_)
          all_goals (try with_reducible (repeat' (first | apply And.intro | intro _)))
          all_goals (try (first | with_reducible refine wa_id ?_ | exact True.intro | omega))
          refine V_ret (evs ?_)
          first | (exfalso; omega) | (subst hc; rfl) | (subst k; rfl) | (rw [rcnt, if_neg (by omega), if_neg (by omega)])
        · refine WA_skip ?_
          refine WA_seq (x := (fcd Tryz.f60 [1, 1, 0])) (y := (fcd Tryz.f60 [1, 1, 1])) ?_
          refine V_regionX Γ Δ [] [0, 2, 3, 4, 7] (evs ?_)
          all_goals (try with_reducible (repeat' (first | apply And.intro | intro _)))
          all_goals (try (first | with_reducible refine wa_id ?_ | exact True.intro | omega))
          refine V_ret (evs ?_)
          first | (exfalso; omega) | (subst hc; rfl) | (subst k; rfl) | (rw [rcnt, if_neg (by omega), if_neg (by omega)])
  · refine V_regionX Γ Δ [] [0, 2, 3, 4, 7] (evs ?_)
    all_goals (try with_reducible (repeat' (first | apply And.intro | intro _)))
    all_goals (try (first | with_reducible refine wa_id ?_ | exact True.intro | omega))
    refine V_cond (evs ?_)
    refine ⟨fun hc => ?_, fun hc => ?_⟩
    · refine WA_seq (x := (fcd Tryz.f60 [1, 0, 1, 0, 1, 0, 0])) (y := (fcd Tryz.f60 [1, 0, 1, 0, 1, 0, 1])) ?_
      refine V_regionX Γ Δ [] [0, 2, 3, 4, 7] (evs ?_)
      all_goals (try with_reducible (repeat' (first | apply And.intro | intro _)))
      all_goals (try (first | with_reducible refine wa_id ?_ | exact True.intro | omega))
      refine V_ret (evs ?_)
      first | (exfalso; omega) | (subst hc; rfl) | (subst k; rfl) | (rw [rcnt, if_neg (by omega), if_neg (by omega)])
    · refine WA_seq (x := (fcd Tryz.f60 [1, 0, 1, 0, 1, 1, 0])) (y := (fcd Tryz.f60 [1, 0, 1, 0, 1, 1, 1])) ?_
      refine WA_seq (x := (fcd Tryz.f60 [1, 0, 1, 0, 1, 1, 0, 0])) (y := (fcd Tryz.f60 [1, 0, 1, 0, 1, 1, 0, 1])) ?_
      refine V_regionX Γ Δ [] [0, 2, 3, 4, 7] (evs ?_)
      all_goals (try with_reducible (repeat' (first | apply And.intro | intro _)))
      all_goals (try (first | with_reducible refine wa_id ?_ | exact True.intro | omega))
      refine V_cond (evs ?_)
      refine ⟨fun hc => ?_, fun hc => ?_⟩
      · refine WA_skip ?_
        refine V_cond (evs ?_)
        refine ⟨fun hc => ?_, fun hc => ?_⟩
        · refine WA_seq (x := (fcd Tryz.f60 [1, 0, 1, 0, 1, 1, 1, 0, 0])) (y := (fcd Tryz.f60 [1, 0, 1, 0, 1, 1, 1, 0, 1])) ?_
          refine V_regionX Γ Δ [] [0, 2, 3, 4, 7] (evs ?_)
          all_goals (try with_reducible (repeat' (first | apply And.intro | intro _)))
          all_goals (try (first | with_reducible refine wa_id ?_ | exact True.intro | omega))
          refine V_ret (evs ?_)
          first | (exfalso; omega) | (subst hc; rfl) | (subst k; rfl) | (rw [rcnt, if_neg (by omega), if_neg (by omega)])
        · refine WA_skip ?_
          refine WA_seq (x := (fcd Tryz.f60 [1, 1, 0])) (y := (fcd Tryz.f60 [1, 1, 1])) ?_
          refine V_regionX Γ Δ [] [0, 2, 3, 4, 7] (evs ?_)
          all_goals (try with_reducible (repeat' (first | apply And.intro | intro _)))
          all_goals (try (first | with_reducible refine wa_id ?_ | exact True.intro | omega))
          refine V_ret (evs ?_)
          first | (exfalso; omega) | (subst hc; rfl) | (subst k; rfl) | (rw [rcnt, if_neg (by omega), if_neg (by omega)])
      · refine V_regionX Γ Δ [] [0, 2, 3, 4, 7] (evs ?_)
        all_goals (try with_reducible (repeat' (first | apply And.intro | intro _)))
        all_goals (try (first | with_reducible refine wa_id ?_ | exact True.intro | omega))
        refine V_cond (evs ?_)
        refine ⟨fun hc => ?_, fun hc => ?_⟩
        · refine WA_seq (x := (fcd Tryz.f60 [1, 0, 1, 0, 1, 1, 1, 0, 0])) (y := (fcd Tryz.f60 [1, 0, 1, 0, 1, 1, 1, 0, 1])) ?_
          refine V_regionX Γ Δ [] [0, 2, 3, 4, 7] (evs ?_)
          all_goals (try with_reducible (repeat' (first | apply And.intro | intro _)))
          all_goals (try (first | with_reducible refine wa_id ?_ | exact True.intro | omega))
          refine V_ret (evs ?_)
          first | (exfalso; omega) | (subst hc; rfl) | (subst k; rfl) | (rw [rcnt, if_neg (by omega), if_neg (by omega)])
        · refine WA_skip ?_
          refine WA_seq (x := (fcd Tryz.f60 [1, 1, 0])) (y := (fcd Tryz.f60 [1, 1, 1])) ?_
          refine V_regionX Γ Δ [] [0, 2, 3, 4, 7] (evs ?_)
          all_goals (try with_reducible (repeat' (first | apply And.intro | intro _)))
          all_goals (try (first | with_reducible refine wa_id ?_ | exact True.intro | omega))
          refine V_ret (evs ?_)
          first | (exfalso; omega) | (subst hc; rfl) | (subst k; rfl) | (rw [rcnt, if_neg (by omega), if_neg (by omega)])

set_option maxHeartbeats 1000000 in
set_option maxRecDepth 100000 in
theorem rfcheck_fn (k : Int) (ps : List Int) : Eng.Fn Tryz.prog 21 [.i k, .sl 1 (ps.map iC)] (.dat (.i (fchkE k ps))) := by
  refine Eng.Fn.by (fn := Tryz.f21) 67 [.tmp 4] Tryz.func21 rfl Tryz.ntmps21 rfl (by simp) fun w0 G0 => ?_
  refine WA_seq (x := (fcd Tryz.f21 [0])) (y := (fcd Tryz.f21 [1])) ?_
  refine V_regionX Γ Δ [] [0, 1, 4, 5, 8, 13, 14, 15, 23, 29, 35, 47, 59, 66] (evs ?_)
  all_goals (try with_reducible (repeat' (first | apply And.intro | intro _)))
  all_goals (try (first | with_reducible refine wa_id ?_ | exact True.intro | omega))
  refine WA_seq (x := (fcd Tryz.f21 [1, 0])) (y := (fcd Tryz.f21 [1, 1])) ?_
  refine WA_seq (x := (fcd Tryz.f21 [1, 0, 0])) (y := (fcd Tryz.f21 [1, 0, 1])) ?_
  refine V_regionX Γ Δ [] [0, 1, 4, 5, 8, 13, 14, 15, 23, 29, 35, 47, 59, 66] (evs ?_)
  all_goals (try with_reducible (repeat' (first | apply And.intro | intro _)))
  all_goals (try (first | with_reducible refine wa_id ?_ | exact True.intro | exact rin_fn _ _ _ | omega))
  refine V_cond (evs ?_)
  refine ⟨fun hc => ?_, fun hc => ?_⟩
  · refine WA_seq (x := (fcd Tryz.f21 [1, 0, 1, 0, 0])) (y := (fcd Tryz.f21 [1, 0, 1, 0, 1])) ?_
    refine V_regionX Γ Δ [] [0, 1, 4, 5, 8, 13, 14, 15, 23, 29, 35, 47, 59, 66] (evs ?_)
    all_goals (try with_reducible (repeat' (first | apply And.intro | intro _)))
    all_goals (try (first | with_reducible refine wa_id ?_ | exact True.intro | omega))
    refine V_ret (evs ?_)
    first | exact fr1 hc | exact fr2 ‹_› hc | exact fr3 ‹_› hk hc | exact fr4 ‹_› hk hc
  · refine WA_skip ?_
    refine WA_seq (x := (fcd Tryz.f21 [1, 1, 0])) (y := (fcd Tryz.f21 [1, 1, 1])) ?_
    refine WA_seq (x := (fcd Tryz.f21 [1, 1, 0, 0])) (y := (fcd Tryz.f21 [1, 1, 0, 1])) ?_
    refine V_regionX Γ Δ [] [0, 1, 4, 5, 8, 13, 14, 15, 23, 29, 35, 47, 59, 66] (evs ?_)
    all_goals (try with_reducible (repeat' (first | apply And.intro | intro _)))
    all_goals (try (first | with_reducible refine wa_id ?_ | exact True.intro | exact rcnt_fn _ | omega))
    refine V_cond (evs ?_)
    refine ⟨fun hc => ?_, fun hc => ?_⟩
    · refine WA_seq (x := (fcd Tryz.f21 [1, 1, 0, 1, 0, 0])) (y := (fcd Tryz.f21 [1, 1, 0, 1, 0, 1])) ?_
      refine V_regionX Γ Δ [] [0, 1, 4, 5, 8, 13, 14, 15, 23, 29, 35, 47, 59, 66] (evs ?_)
      all_goals (try with_reducible (repeat' (first | apply And.intro | intro _)))
      all_goals (try (first | with_reducible refine wa_id ?_ | exact True.intro | omega))
      refine V_ret (evs ?_)
      first | exact fr1 hc | exact fr2 ‹_› hc | exact fr3 ‹_› hk hc | exact fr4 ‹_› hk hc
    · refine WA_skip ?_
      refine WA_seq (x := (fcd Tryz.f21 [1, 1, 1, 0])) (y := (fcd Tryz.f21 [1, 1, 1, 1])) ?_
      refine V_regionX Γ Δ [] [0, 1, 4, 5, 8, 13, 14, 15, 23, 29, 35, 47, 59, 66] (evs ?_)
      have hk := hc
      all_goals (try with_reducible (repeat' (first | apply And.intro | intro _)))
      all_goals (try (first | with_reducible refine wa_id ?_ | exact True.intro | omega))
      refine V_cut (x := (fcd Tryz.f21 [1, 1, 1, 1, 0])) (y := (fcd Tryz.f21 [1, 1, 1, 1, 1])) (α := Unit) [5, 14, 15, 23, 29, 35, 47, 59] [12200, 12201, 12202, 12203, 12800, 12801, 12802, 12803, 13400, 13401, 13402, 13403, 14000, 14001, 14002, 14003, 14500, 14501, 14502, 14503, 15200, 15201, 15202, 15203, 15700, 15701, 15702, 15703, 16400, 16401, 16402, 16403] (fun _ => [(5, .dat (.b (okPs (spL k) ps ps.length)))]) (fun _ => []) (fun _ => True) ?_ ?_
      · refine WA_seq (x := (fcd Tryz.f21 [1, 1, 1, 1, 0, 0])) (y := (fcd Tryz.f21 [1, 1, 1, 1, 0, 1])) ?_
        refine V_regionX Γ Δ [] [0, 1, 4, 5, 8, 13, 14, 15, 23, 29, 35, 47, 59, 66] (evs ?_)
        all_goals (try with_reducible (repeat' (first | apply And.intro | intro _)))
        all_goals (try (first | with_reducible refine wa_id ?_ | exact True.intro | omega))
        refine WA_block (c := (fcd Tryz.f21 [1, 1, 1, 1, 0, 1, 0])) ?_
        refine V_cut (x := (fcd Tryz.f21 [1, 1, 1, 1, 0, 1, 0, 0])) (y := (fcd Tryz.f21 [1, 1, 1, 1, 0, 1, 0, 1])) (α := Unit) [15] [] (fun _ => [(15, .dat (.b (k == 1 || k == 7 || k == 8)))]) (fun _ => []) (fun _ => True) ?_ ?_
        · refine WA_seq (x := (fcd Tryz.f21 [1, 1, 1, 1, 0, 1, 0, 0, 0])) (y := (fcd Tryz.f21 [1, 1, 1, 1, 0, 1, 0, 0, 1])) ?_
          refine V_regionX Γ Δ [] [0, 1, 4, 5, 8, 13, 14, 15, 23, 29, 35, 47, 59, 66] (evs ?_)
          all_goals (try with_reducible (repeat' (first | apply And.intro | intro _)))
          all_goals (try (first | with_reducible refine wa_id ?_ | exact True.intro | omega))
          refine V_cond (evs ?_)
          refine ⟨fun hc => ?_, fun hc => ?_⟩
          · refine WA_skip ?_
            refine V_jn [] () (evs ?_) ?_
            all_goals (try with_reducible (repeat' (first | apply And.intro | intro _)))
            all_goals (first | exact True.intro | omega | (first | (rw [Bool.eq_iff_iff]; simp; omega)))
          · refine WA_seq (x := (fcd Tryz.f21 [1, 1, 1, 1, 0, 1, 0, 0, 1, 1, 0])) (y := (fcd Tryz.f21 [1, 1, 1, 1, 0, 1, 0, 0, 1, 1, 1])) ?_
            refine V_regionX Γ Δ [] [0, 1, 4, 5, 8, 13, 14, 15, 23, 29, 35, 47, 59, 66] (evs ?_)
            all_goals (try with_reducible (repeat' (first | apply And.intro | intro _)))
            all_goals (try (first | with_reducible refine wa_id ?_ | exact True.intro | omega))
            refine V_cond (evs ?_)
            refine ⟨fun hc => ?_, fun hc => ?_⟩
            · refine WA_skip ?_
              refine V_jn [] () (evs ?_) ?_
              all_goals (try with_reducible (repeat' (first | apply And.intro | intro _)))
              all_goals (first | exact True.intro | omega | (first | (rw [Bool.eq_iff_iff]; simp; omega)))
            · refine V_regionX Γ Δ [] [0, 1, 4, 5, 8, 13, 14, 15, 23, 29, 35, 47, 59, 66] (evs ?_)
              all_goals (try with_reducible (repeat' (first | apply And.intro | intro _)))
              all_goals (try (first | with_reducible refine wa_id ?_ | exact True.intro | omega))
              refine V_jn [] () (evs ?_) ?_
              all_goals (try with_reducible (repeat' (first | apply And.intro | intro _)))
              all_goals (first | exact True.intro | omega | (first | (rw [Bool.eq_iff_iff]; simp; omega)))
        · intro _ _
          refine V_cond (evs ?_)
          refine ⟨fun hc => ?_, fun hc => ?_⟩
          · refine V_regionX Γ Δ [] [0, 1, 4, 5, 8, 13, 14, 15, 23, 29, 35, 47, 59, 66] (evs ?_)
            have hn : ps.length = 1 := by have := hk; rw [rcnt, if_neg (by omega), if_neg (by omega)] at this; omega
            all_goals (try with_reducible (repeat' (first | apply And.intro | intro _)))
            all_goals (try (first | with_reducible refine wa_id ?_ | exact True.intro | exact rin_fn _ _ _ | omega))
            refine V_jn [] () (evs ?_) ?_
            all_goals (try with_reducible (repeat' (first | apply And.intro | intro _)))
            all_goals (first | exact True.intro | omega | (first | exact ok1 (by rw [spL, if_pos (by omega)]) hn | (subst k; exact ok1 rfl hn) | (subst k; exact ok2 rfl hn) | (refine ok0 ?_; have h9 := in_T.1 ‹inSp k ⟨1, 10⟩ = true›; simp only at h9; rw [rcnt, if_pos (by omega)] at hk; omega)))
          · refine WA_seq (x := (fcd Tryz.f21 [1, 1, 1, 1, 0, 1, 0, 1, 1, 0])) (y := (fcd Tryz.f21 [1, 1, 1, 1, 0, 1, 0, 1, 1, 1])) ?_
            refine V_regionX Γ Δ [] [0, 1, 4, 5, 8, 13, 14, 15, 23, 29, 35, 47, 59, 66] (evs ?_)
            all_goals (try with_reducible (repeat' (first | apply And.intro | intro _)))
            all_goals (try (first | with_reducible refine wa_id ?_ | exact True.intro | omega))
            refine V_cond (evs ?_)
            refine ⟨fun hc => ?_, fun hc => ?_⟩
            · refine V_regionX Γ Δ [] [0, 1, 4, 5, 8, 13, 14, 15, 23, 29, 35, 47, 59, 66] (evs ?_)
              have hn : ps.length = 1 := by have := hk; rw [rcnt, if_neg (by omega), if_neg (by omega)] at this; omega
              all_goals (try with_reducible (repeat' (first | apply And.intro | intro _)))
              all_goals (try (first | with_reducible refine wa_id ?_ | exact True.intro | exact rin_fn _ _ _ | omega))
              refine V_jn [] () (evs ?_) ?_
              all_goals (try with_reducible (repeat' (first | apply And.intro | intro _)))
              all_goals (first | exact True.intro | omega | (first | exact ok1 (by rw [spL, if_pos (by omega)]) hn | (subst k; exact ok1 rfl hn) | (subst k; exact ok2 rfl hn) | (refine ok0 ?_; have h9 := in_T.1 ‹inSp k ⟨1, 10⟩ = true›; simp only at h9; rw [rcnt, if_pos (by omega)] at hk; omega)))
            · refine WA_seq (x := (fcd Tryz.f21 [1, 1, 1, 1, 0, 1, 0, 1, 1, 1, 1, 0])) (y := (fcd Tryz.f21 [1, 1, 1, 1, 0, 1, 0, 1, 1, 1, 1, 1])) ?_
              refine V_regionX Γ Δ [] [0, 1, 4, 5, 8, 13, 14, 15, 23, 29, 35, 47, 59, 66] (evs ?_)
              all_goals (try with_reducible (repeat' (first | apply And.intro | intro _)))
              all_goals (try (first | with_reducible refine wa_id ?_ | exact True.intro | omega))
              refine V_cond (evs ?_)
              refine ⟨fun hc => ?_, fun hc => ?_⟩
              · refine V_regionX Γ Δ [] [0, 1, 4, 5, 8, 13, 14, 15, 23, 29, 35, 47, 59, 66] (evs ?_)
                have hn : ps.length = 1 := by have := hk; rw [rcnt, if_neg (by omega), if_neg (by omega)] at this; omega
                all_goals (try with_reducible (repeat' (first | apply And.intro | intro _)))
                all_goals (try (first | with_reducible refine wa_id ?_ | exact True.intro | exact rin_fn _ _ _ | omega))
                refine V_jn [] () (evs ?_) ?_
                all_goals (try with_reducible (repeat' (first | apply And.intro | intro _)))
                all_goals (first | exact True.intro | omega | (first | exact ok1 (by rw [spL, if_pos (by omega)]) hn | (subst k; exact ok1 rfl hn) | (subst k; exact ok2 rfl hn) | (refine ok0 ?_; have h9 := in_T.1 ‹inSp k ⟨1, 10⟩ = true›; simp only at h9; rw [rcnt, if_pos (by omega)] at hk; omega)))
              · refine WA_seq (x := (fcd Tryz.f21 [1, 1, 1, 1, 0, 1, 0, 1, 1, 1, 1, 1, 1, 0])) (y := (fcd Tryz.f21 [1, 1, 1, 1, 0, 1, 0, 1, 1, 1, 1, 1, 1, 1])) ?_
                refine V_regionX Γ Δ [] [0, 1, 4, 5, 8, 13, 14, 15, 23, 29, 35, 47, 59, 66] (evs ?_)
                all_goals (try with_reducible (repeat' (first | apply And.intro | intro _)))
                all_goals (try (first | with_reducible refine wa_id ?_ | exact True.intro | omega))
                refine V_cond (evs ?_)
                refine ⟨fun hc => ?_, fun hc => ?_⟩
                · refine V_regionX Γ Δ [] [0, 1, 4, 5, 8, 13, 14, 15, 23, 29, 35, 47, 59, 66] (evs ?_)
                  have hn : ps.length = 2 := by have := hk; rw [rcnt, if_neg (by omega), if_pos (by omega)] at this; omega
                  all_goals (try with_reducible (repeat' (first | apply And.intro | intro _)))
                  all_goals (try (first | with_reducible refine wa_id ?_ | exact True.intro | exact rin_fn _ _ _ | omega))
                  refine V_jn [] () (evs ?_) ?_
                  all_goals (try with_reducible (repeat' (first | apply And.intro | intro _)))
                  all_goals (first | exact True.intro | omega | (first | exact ok1 (by rw [spL, if_pos (by omega)]) hn | (subst k; exact ok1 rfl hn) | (subst k; exact ok2 rfl hn) | (refine ok0 ?_; have h9 := in_T.1 ‹inSp k ⟨1, 10⟩ = true›; simp only at h9; rw [rcnt, if_pos (by omega)] at hk; omega)))
                · refine WA_seq (x := (fcd Tryz.f21 [1, 1, 1, 1, 0, 1, 0, 1, 1, 1, 1, 1, 1, 1, 1, 0])) (y := (fcd Tryz.f21 [1, 1, 1, 1, 0, 1, 0, 1, 1, 1, 1, 1, 1, 1, 1, 1])) ?_
                  refine V_regionX Γ Δ [] [0, 1, 4, 5, 8, 13, 14, 15, 23, 29, 35, 47, 59, 66] (evs ?_)
                  all_goals (try with_reducible (repeat' (first | apply And.intro | intro _)))
                  all_goals (try (first | with_reducible refine wa_id ?_ | exact True.intro | omega))
                  refine V_cond (evs ?_)
                  refine ⟨fun hc => ?_, fun hc => ?_⟩
                  · refine V_regionX Γ Δ [] [0, 1, 4, 5, 8, 13, 14, 15, 23, 29, 35, 47, 59, 66] (evs ?_)
                    have hn : ps.length = 2 := by have := hk; rw [rcnt, if_neg (by omega), if_pos (by omega)] at this; omega
                    all_goals (try with_reducible (repeat' (first | apply And.intro | intro _)))
                    all_goals (try (first | with_reducible refine wa_id ?_ | exact True.intro | exact rin_fn _ _ _ | omega))
                    refine V_jn [] () (evs ?_) ?_
                    all_goals (try with_reducible (repeat' (first | apply And.intro | intro _)))
                    all_goals (first | exact True.intro | omega | (first | exact ok1 (by rw [spL, if_pos (by omega)]) hn | (subst k; exact ok1 rfl hn) | (subst k; exact ok2 rfl hn) | (refine ok0 ?_; have h9 := in_T.1 ‹inSp k ⟨1, 10⟩ = true›; simp only at h9; rw [rcnt, if_pos (by omega)] at hk; omega)))
                  · refine WA_seq (x := (fcd Tryz.f21 [1, 1, 1, 1, 0, 1, 0, 1, 1, 1, 1, 1, 1, 1, 1, 1, 1, 0])) (y := (fcd Tryz.f21 [1, 1, 1, 1, 0, 1, 0, 1, 1, 1, 1, 1, 1, 1, 1, 1, 1, 1])) ?_
                    refine V_regionX Γ Δ [] [0, 1, 4, 5, 8, 13, 14, 15, 23, 29, 35, 47, 59, 66] (evs ?_)
                    all_goals (try with_reducible (repeat' (first | apply And.intro | intro _)))
                    all_goals (try (first | with_reducible refine wa_id ?_ | exact True.intro | omega))
                    refine V_cond (evs ?_)
                    refine ⟨fun hc => ?_, fun hc => ?_⟩
                    · refine V_regionX Γ Δ [] [0, 1, 4, 5, 8, 13, 14, 15, 23, 29, 35, 47, 59, 66] (evs ?_)
                      have hn : ps.length = 1 := by have := hk; rw [rcnt, if_neg (by omega), if_neg (by omega)] at this; omega
                      all_goals (try with_reducible (repeat' (first | apply And.intro | intro _)))
                      all_goals (try (first | with_reducible refine wa_id ?_ | exact True.intro | exact rin_fn _ _ _ | omega))
                      refine V_jn [] () (evs ?_) ?_
                      all_goals (try with_reducible (repeat' (first | apply And.intro | intro _)))
                      all_goals (first | exact True.intro | omega | (first | exact ok1 (by rw [spL, if_pos (by omega)]) hn | (subst k; exact ok1 rfl hn) | (subst k; exact ok2 rfl hn) | (refine ok0 ?_; have h9 := in_T.1 ‹inSp k ⟨1, 10⟩ = true›; simp only at h9; rw [rcnt, if_pos (by omega)] at hk; omega)))
                    · refine WA_skip ?_
                      refine V_jn [] () (evs ?_) ?_
                      all_goals (try with_reducible (repeat' (first | apply And.intro | intro _)))
                      all_goals (first | exact True.intro | omega | (first | exact ok1 (by rw [spL, if_pos (by omega)]) hn | (subst k; exact ok1 rfl hn) | (subst k; exact ok2 rfl hn) | (refine ok0 ?_; have h9 := in_T.1 ‹inSp k ⟨1, 10⟩ = true›; simp only at h9; rw [rcnt, if_pos (by omega)] at hk; omega)))
      · intro _ _
        refine WA_seq (x := (fcd Tryz.f21 [1, 1, 1, 1, 1, 0])) (y := (fcd Tryz.f21 [1, 1, 1, 1, 1, 1])) ?_
        refine WA_seq (x := (fcd Tryz.f21 [1, 1, 1, 1, 1, 0, 0])) (y := (fcd Tryz.f21 [1, 1, 1, 1, 1, 0, 1])) ?_
        refine V_regionX Γ Δ [] [0, 1, 4, 5, 8, 13, 14, 15, 23, 29, 35, 47, 59, 66] (evs ?_)
        all_goals (try with_reducible (repeat' (first | apply And.intro | intro _)))
        all_goals (try (first | with_reducible refine wa_id ?_ | exact True.intro | omega))
        refine V_cond (evs ?_)
        refine ⟨fun hc => ?_, fun hc => ?_⟩
        · refine WA_seq (x := (fcd Tryz.f21 [1, 1, 1, 1, 1, 0, 1, 0, 0])) (y := (fcd Tryz.f21 [1, 1, 1, 1, 1, 0, 1, 0, 1])) ?_
          refine V_regionX Γ Δ [] [0, 1, 4, 5, 8, 13, 14, 15, 23, 29, 35, 47, 59, 66] (evs ?_)
          all_goals (try with_reducible (repeat' (first | apply And.intro | intro _)))
          all_goals (try (first | with_reducible refine wa_id ?_ | exact True.intro | omega))
          refine V_ret (evs ?_)
          first | exact fr1 hc | exact fr2 ‹_› hc | exact fr3 ‹_› hk hc | exact fr4 ‹_› hk hc
        · refine WA_skip ?_
          refine WA_seq (x := (fcd Tryz.f21 [1, 1, 1, 1, 1, 1, 0])) (y := (fcd Tryz.f21 [1, 1, 1, 1, 1, 1, 1])) ?_
          refine V_regionX Γ Δ [] [0, 1, 4, 5, 8, 13, 14, 15, 23, 29, 35, 47, 59, 66] (evs ?_)
          all_goals (try with_reducible (repeat' (first | apply And.intro | intro _)))
          all_goals (try (first | with_reducible refine wa_id ?_ | exact True.intro | omega))
          refine V_ret (evs ?_)
          first | exact fr1 hc | exact fr2 ‹_› hc | exact fr3 ‹_› hk hc | exact fr4 ‹_› hk hc

theorem fabs_fn (n : Int) (h : -100 ≤ n ∧ n ≤ 100) : Eng.Fn Tryz.prog 58 [.i n] (.dat (.i (abs2 n))) := by
  refine Eng.Fn.by (fn := Tryz.f58) 7 [.tmp 2] Tryz.func58 rfl Tryz.ntmps58 rfl (by simp) fun w0 G0 => ?_
  refine WA_seq (x := (fcd Tryz.f58 [0])) (y := (fcd Tryz.f58 [1])) ?_
  refine V_regionX Γ Δ [] [0, 2] (evs ?_)
  all_goals (try with_reducible (repeat' (first | apply And.intro | intro _)))
  all_goals (try (first | with_reducible refine wa_id ?_ | exact True.intro | omega))
  refine WA_seq (x := (fcd Tryz.f58 [1, 0])) (y := (fcd Tryz.f58 [1, 1])) ?_
  refine V_regionX Γ Δ [] [0, 2] (evs ?_)
  all_goals (try with_reducible (repeat' (first | apply And.intro | intro _)))
  all_goals (try (first | with_reducible refine wa_id ?_ | exact True.intro | omega))
  refine V_ret (evs ?_)
  first | (rw [abs2, w64 (by omega) (by omega)]; congr 1; omega)

theorem freach_fn (k : Int) (ps : List Int) : Eng.Fn Tryz.prog 20 [.i k, .sl 1 (ps.map iC)] (.dat (.i (reachI k ps))) := by
  refine Eng.Fn.by (fn := Tryz.f20) 33 [.tmp 4] Tryz.func20 rfl Tryz.ntmps20 rfl (by simp) fun w0 G0 => ?_
  refine WA_seq (x := (fcd Tryz.f20 [0])) (y := (fcd Tryz.f20 [1])) ?_
  refine V_regionX Γ Δ [] [0, 1, 4, 8, 9, 10, 13, 24] (evs ?_)
  all_goals (try with_reducible (repeat' (first | apply And.intro | intro _)))
  all_goals (try (first | with_reducible refine wa_id ?_ | exact True.intro | omega))
  refine WA_seq (x := (fcd Tryz.f20 [1, 0])) (y := (fcd Tryz.f20 [1, 1])) ?_
  refine WA_seq (x := (fcd Tryz.f20 [1, 0, 0])) (y := (fcd Tryz.f20 [1, 0, 1])) ?_
  refine V_regionX Γ Δ [] [0, 1, 4, 8, 9, 10, 13, 24] (evs ?_)
  all_goals (try with_reducible (repeat' (first | apply And.intro | intro _)))
  all_goals (try (first | with_reducible refine wa_id ?_ | exact True.intro | exact fcheck_fn _ _ | omega))
  refine V_cond (evs ?_)
  refine ⟨fun hc => ?_, fun hc => ?_⟩
  · refine WA_seq (x := (fcd Tryz.f20 [1, 0, 1, 0, 0])) (y := (fcd Tryz.f20 [1, 0, 1, 0, 1])) ?_
    refine V_regionX Γ Δ [] [0, 1, 4, 8, 9, 10, 13, 24] (evs ?_)
    all_goals (try with_reducible (repeat' (first | apply And.intro | intro _)))
    all_goals (try (first | with_reducible refine wa_id ?_ | exact True.intro | omega))
    refine V_ret (evs ?_)
    first | (exfalso; omega) | (unfold reachI; try unfold abs2; (repeat' split) <;> first | omega | rfl)
  · refine WA_skip ?_
    refine WA_seq (x := (fcd Tryz.f20 [1, 1, 0])) (y := (fcd Tryz.f20 [1, 1, 1])) ?_
    refine WA_seq (x := (fcd Tryz.f20 [1, 1, 0, 0])) (y := (fcd Tryz.f20 [1, 1, 0, 1])) ?_
    refine V_regionX Γ Δ [] [0, 1, 4, 8, 9, 10, 13, 24] (evs ?_)
    all_goals (try with_reducible (repeat' (first | apply And.intro | intro _)))
    all_goals (try (first | with_reducible refine wa_id ?_ | exact True.intro | omega))
    refine WA_block (c := (fcd Tryz.f20 [1, 1, 0, 1, 0])) ?_
    refine WA_seq (x := (fcd Tryz.f20 [1, 1, 0, 1, 0, 0])) (y := (fcd Tryz.f20 [1, 1, 0, 1, 0, 1])) ?_
    refine WA_seq (x := (fcd Tryz.f20 [1, 1, 0, 1, 0, 0, 0])) (y := (fcd Tryz.f20 [1, 1, 0, 1, 0, 0, 1])) ?_
    refine V_regionX Γ Δ [] [0, 1, 4, 8, 9, 10, 13, 24] (evs ?_)
    all_goals (try with_reducible (repeat' (first | apply And.intro | intro _)))
    all_goals (try (first | with_reducible refine wa_id ?_ | exact True.intro | omega))
    refine V_cond (evs ?_)
    refine ⟨fun hc => ?_, fun hc => ?_⟩
    · refine WA_skip ?_
      refine V_cond (evs ?_)
      refine ⟨fun hc => ?_, fun hc => ?_⟩
      · refine WA_seq (x := (fcd Tryz.f20 [1, 1, 0, 1, 0, 1, 0, 0])) (y := (fcd Tryz.f20 [1, 1, 0, 1, 0, 1, 0, 1])) ?_
        refine V_regionX Γ Δ [] [0, 1, 4, 8, 9, 10, 13, 24] (evs ?_)
        all_goals (try with_reducible (repeat' (first | apply And.intro | intro _)))
        all_goals (try (first | with_reducible refine wa_id ?_ | exact True.intro | omega))
        refine V_ret (evs ?_)
        first | (exfalso; omega) | (unfold reachI; try unfold abs2; (repeat' split) <;> first | omega | rfl)
      · refine WA_seq (x := (fcd Tryz.f20 [1, 1, 0, 1, 0, 1, 1, 0])) (y := (fcd Tryz.f20 [1, 1, 0, 1, 0, 1, 1, 1])) ?_
        refine V_regionX Γ Δ [] [0, 1, 4, 8, 9, 10, 13, 24] (evs ?_)
        all_goals (try with_reducible (repeat' (first | apply And.intro | intro _)))
        all_goals (try (first | with_reducible refine wa_id ?_ | exact True.intro | omega))
        refine V_cond (evs ?_)
        refine ⟨fun hc => ?_, fun hc => ?_⟩
        · refine WA_seq (x := (fcd Tryz.f20 [1, 1, 0, 1, 0, 1, 1, 1, 0, 0])) (y := (fcd Tryz.f20 [1, 1, 0, 1, 0, 1, 1, 1, 0, 1])) ?_
          refine V_draw Γ [] [0, 1, 4, 8, 9, 10, 13, 24] mixed (by kernel_rfl) (evs ?_)
          have h0 := ‹fchkE k ps = 0›
          have hg := fk_rg h0
          have hg9 := hg.2.1 ‹_›
          all_goals (try with_reducible (repeat' (first | apply And.intro | intro _)))
          all_goals (try (first | with_reducible refine wa_id ?_ | exact True.intro | exact fabs_fn _ (by omega) | omega))
          refine V_ret (evs ?_)
          first | (exfalso; omega) | (unfold reachI; try unfold abs2; (repeat' split) <;> first | omega | rfl)
        · refine WA_seq (x := (fcd Tryz.f20 [1, 1, 0, 1, 0, 1, 1, 1, 1, 0])) (y := (fcd Tryz.f20 [1, 1, 0, 1, 0, 1, 1, 1, 1, 1])) ?_
          refine V_regionX Γ Δ [] [0, 1, 4, 8, 9, 10, 13, 24] (evs ?_)
          all_goals (try with_reducible (repeat' (first | apply And.intro | intro _)))
          all_goals (try (first | with_reducible refine wa_id ?_ | exact True.intro | omega))
          refine V_cond (evs ?_)
          refine ⟨fun hc => ?_, fun hc => ?_⟩
          · refine WA_seq (x := (fcd Tryz.f20 [1, 1, 0, 1, 0, 1, 1, 1, 1, 1, 0, 0])) (y := (fcd Tryz.f20 [1, 1, 0, 1, 0, 1, 1, 1, 1, 1, 0, 1])) ?_
            refine V_regionX Γ Δ [] [0, 1, 4, 8, 9, 10, 13, 24] (evs ?_)
            have h0 := ‹fchkE k ps = 0›
            have hg := fk_rg h0
            have hg10 := hg.2.2.1 ‹_›
            all_goals (try with_reducible (repeat' (first | apply And.intro | intro _)))
            all_goals (try (first | with_reducible refine wa_id ?_ | exact True.intro | omega))
            (try simp (maxSteps := 10000000) (disch := omega) only [w64])
            refine V_ret (evs ?_)
            first | (exfalso; omega) | (unfold reachI; try unfold abs2; (repeat' split) <;> first | omega | rfl)
          · refine WA_skip ?_
            refine WA_seq (x := (fcd Tryz.f20 [1, 1, 1, 0])) (y := (fcd Tryz.f20 [1, 1, 1, 1])) ?_
            refine V_regionX Γ Δ [] [0, 1, 4, 8, 9, 10, 13, 24] (evs ?_)
            have h0 := ‹fchkE k ps = 0›
            have hg := fk_rg h0
            have hg11 := hg.2.2.2.1 (by omega) (by omega)
            all_goals (try with_reducible (repeat' (first | apply And.intro | intro _)))
            all_goals (try (first | with_reducible refine wa_id ?_ | exact True.intro | omega))
            refine V_ret (evs ?_)
            first | (exfalso; omega) | (unfold reachI; try unfold abs2; (repeat' split) <;> first | omega | rfl)
    · refine V_regionX Γ Δ [] [0, 1, 4, 8, 9, 10, 13, 24] (evs ?_)
      all_goals (try with_reducible (repeat' (first | apply And.intro | intro _)))
      all_goals (try (first | with_reducible refine wa_id ?_ | exact True.intro | omega))
      refine V_cond (evs ?_)
      refine ⟨fun hc => ?_, fun hc => ?_⟩
      · refine WA_seq (x := (fcd Tryz.f20 [1, 1, 0, 1, 0, 1, 0, 0])) (y := (fcd Tryz.f20 [1, 1, 0, 1, 0, 1, 0, 1])) ?_
        refine V_regionX Γ Δ [] [0, 1, 4, 8, 9, 10, 13, 24] (evs ?_)
        all_goals (try with_reducible (repeat' (first | apply And.intro | intro _)))
        all_goals (try (first | with_reducible refine wa_id ?_ | exact True.intro | omega))
        refine V_ret (evs ?_)
        first | (exfalso; omega) | (unfold reachI; try unfold abs2; (repeat' split) <;> first | omega | rfl)
      · refine WA_seq (x := (fcd Tryz.f20 [1, 1, 0, 1, 0, 1, 1, 0])) (y := (fcd Tryz.f20 [1, 1, 0, 1, 0, 1, 1, 1])) ?_
        refine V_regionX Γ Δ [] [0, 1, 4, 8, 9, 10, 13, 24] (evs ?_)
        all_goals (try with_reducible (repeat' (first | apply And.intro | intro _)))
        all_goals (try (first | with_reducible refine wa_id ?_ | exact True.intro | omega))
        refine V_cond (evs ?_)
        refine ⟨fun hc => ?_, fun hc => ?_⟩
        · refine WA_seq (x := (fcd Tryz.f20 [1, 1, 0, 1, 0, 1, 1, 1, 0, 0])) (y := (fcd Tryz.f20 [1, 1, 0, 1, 0, 1, 1, 1, 0, 1])) ?_
          refine V_draw Γ [] [0, 1, 4, 8, 9, 10, 13, 24] mixed (by kernel_rfl) (evs ?_)
          have h0 := ‹fchkE k ps = 0›
          have hg := fk_rg h0
          have hg9 := hg.2.1 ‹_›
          all_goals (try with_reducible (repeat' (first | apply And.intro | intro _)))
          all_goals (try (first | with_reducible refine wa_id ?_ | exact True.intro | exact fabs_fn _ (by omega) | omega))
          refine V_ret (evs ?_)
          first | (exfalso; omega) | (unfold reachI; try unfold abs2; (repeat' split) <;> first | omega | rfl)
        · refine WA_seq (x := (fcd Tryz.f20 [1, 1, 0, 1, 0, 1, 1, 1, 1, 0])) (y := (fcd Tryz.f20 [1, 1, 0, 1, 0, 1, 1, 1, 1, 1])) ?_
          refine V_regionX Γ Δ [] [0, 1, 4, 8, 9, 10, 13, 24] (evs ?_)
          all_goals (try with_reducible (repeat' (first | apply And.intro | intro _)))
          all_goals (try (first | with_reducible refine wa_id ?_ | exact True.intro | omega))
          refine V_cond (evs ?_)
          refine ⟨fun hc => ?_, fun hc => ?_⟩
          · refine WA_seq (x := (fcd Tryz.f20 [1, 1, 0, 1, 0, 1, 1, 1, 1, 1, 0, 0])) (y := (fcd Tryz.f20 [1, 1, 0, 1, 0, 1, 1, 1, 1, 1, 0, 1])) ?_
            refine V_regionX Γ Δ [] [0, 1, 4, 8, 9, 10, 13, 24] (evs ?_)
            have h0 := ‹fchkE k ps = 0›
            have hg := fk_rg h0
            have hg10 := hg.2.2.1 ‹_›
            all_goals (try with_reducible (repeat' (first | apply And.intro | intro _)))
            all_goals (try (first | with_reducible refine wa_id ?_ | exact True.intro | omega))
            (try simp (maxSteps := 10000000) (disch := omega) only [w64])
            refine V_ret (evs ?_)
            first | (exfalso; omega) | (unfold reachI; try unfold abs2; (repeat' split) <;> first | omega | rfl)
          · refine WA_skip ?_
            refine WA_seq (x := (fcd Tryz.f20 [1, 1, 1, 0])) (y := (fcd Tryz.f20 [1, 1, 1, 1])) ?_
            refine V_regionX Γ Δ [] [0, 1, 4, 8, 9, 10, 13, 24] (evs ?_)
            have h0 := ‹fchkE k ps = 0›
            have hg := fk_rg h0
            have hg11 := hg.2.2.2.1 (by omega) (by omega)
            all_goals (try with_reducible (repeat' (first | apply And.intro | intro _)))
            all_goals (try (first | with_reducible refine wa_id ?_ | exact True.intro | omega))
            refine V_ret (evs ?_)
            first | (exfalso; omega) | (unfold reachI; try unfold abs2; (repeat' split) <;> first | omega | rfl)

theorem rfreach_fn (k : Int) (ps : List Int) : Eng.Fn Tryz.prog 46 [.i k, .sl 1 (ps.map iC)] (.dat (.i (reachI k ps))) := by
  refine Eng.Fn.by (fn := Tryz.f46) 39 [.tmp 4] Tryz.func46 rfl Tryz.ntmps46 rfl (by simp) fun w0 G0 => ?_
  refine WA_seq (x := (fcd Tryz.f46 [0])) (y := (fcd Tryz.f46 [1])) ?_
  refine V_regionX Γ Δ [] [0, 1, 4, 8, 9, 10, 13, 30] (evs ?_)
  all_goals (try with_reducible (repeat' (first | apply And.intro | intro _)))
  all_goals (try (first | with_reducible refine wa_id ?_ | exact True.intro | omega))
  refine WA_seq (x := (fcd Tryz.f46 [1, 0])) (y := (fcd Tryz.f46 [1, 1])) ?_
  refine WA_seq (x := (fcd Tryz.f46 [1, 0, 0])) (y := (fcd Tryz.f46 [1, 0, 1])) ?_
  refine V_regionX Γ Δ [] [0, 1, 4, 8, 9, 10, 13, 30] (evs ?_)
  all_goals (try with_reducible (repeat' (first | apply And.intro | intro _)))
  all_goals (try (first | with_reducible refine wa_id ?_ | exact True.intro | exact rfcheck_fn _ _ | omega))
  refine V_cond (evs ?_)
  refine ⟨fun hc => ?_, fun hc => ?_⟩
  · refine WA_seq (x := (fcd Tryz.f46 [1, 0, 1, 0, 0])) (y := (fcd Tryz.f46 [1, 0, 1, 0, 1])) ?_
    refine V_regionX Γ Δ [] [0, 1, 4, 8, 9, 10, 13, 30] (evs ?_)
    all_goals (try with_reducible (repeat' (first | apply And.intro | intro _)))
    all_goals (try (first | with_reducible refine wa_id ?_ | exact True.intro | omega))
    refine V_ret (evs ?_)
    first | (exfalso; omega) | (unfold reachI; try unfold abs2; (repeat' split) <;> first | omega | rfl)
  · refine WA_skip ?_
    refine WA_seq (x := (fcd Tryz.f46 [1, 1, 0])) (y := (fcd Tryz.f46 [1, 1, 1])) ?_
    refine WA_seq (x := (fcd Tryz.f46 [1, 1, 0, 0])) (y := (fcd Tryz.f46 [1, 1, 0, 1])) ?_
    refine V_regionX Γ Δ [] [0, 1, 4, 8, 9, 10, 13, 30] (evs ?_)
    all_goals (try with_reducible (repeat' (first | apply And.intro | intro _)))
    all_goals (try (first | with_reducible refine wa_id ?_ | exact True.intro | omega))
    refine WA_block (c := (fcd Tryz.f46 [1, 1, 0, 1, 0])) ?_
    refine WA_seq (x := (fcd Tryz.f46 [1, 1, 0, 1, 0, 0])) (y := (fcd Tryz.f46 [1, 1, 0, 1, 0, 1])) ?_
    refine WA_seq (x := (fcd Tryz.f46 [1, 1, 0, 1, 0, 0, 0])) (y := (fcd Tryz.f46 [1, 1, 0, 1, 0, 0, 1])) ?_
    refine V_regionX Γ Δ [] [0, 1, 4, 8, 9, 10, 13, 30] (evs ?_)
    all_goals (try with_reducible (repeat' (first | apply And.intro | intro _)))
    all_goals (try (first | with_reducible refine wa_id ?_ | exact True.intro | omega))
    refine V_cond (evs ?_)
    refine ⟨fun hc => ?_, fun hc => ?_⟩
    · refine WA_skip ?_
      refine V_cond (evs ?_)
      refine ⟨fun hc => ?_, fun hc => ?_⟩
      · refine WA_seq (x := (fcd Tryz.f46 [1, 1, 0, 1, 0, 1, 0, 0])) (y := (fcd Tryz.f46 [1, 1, 0, 1, 0, 1, 0, 1])) ?_
        refine V_regionX Γ Δ [] [0, 1, 4, 8, 9, 10, 13, 30] (evs ?_)
        all_goals (try with_reducible (repeat' (first | apply And.intro | intro _)))
        all_goals (try (first | with_reducible refine wa_id ?_ | exact True.intro | omega))
        refine V_ret (evs ?_)
        first | (exfalso; omega) | (unfold reachI; try unfold abs2; (repeat' split) <;> first | omega | rfl)
      · refine WA_seq (x := (fcd Tryz.f46 [1, 1, 0, 1, 0, 1, 1, 0])) (y := (fcd Tryz.f46 [1, 1, 0, 1, 0, 1, 1, 1])) ?_
        refine V_regionX Γ Δ [] [0, 1, 4, 8, 9, 10, 13, 30] (evs ?_)
        all_goals (try with_reducible (repeat' (first | apply And.intro | intro _)))
        all_goals (try (first | with_reducible refine wa_id ?_ | exact True.intro | omega))
        refine V_cond (evs ?_)
        refine ⟨fun hc => ?_, fun hc => ?_⟩
        · refine WA_seq (x := (fcd Tryz.f46 [1, 1, 0, 1, 0, 1, 1, 1, 0, 0])) (y := (fcd Tryz.f46 [1, 1, 0, 1, 0, 1, 1, 1, 0, 1])) ?_
          refine V_draw Γ [] [0, 1, 4, 8, 9, 10, 13, 30] mixed (by kernel_rfl) (evs ?_)
          have h0 := ‹fchkE k ps = 0›
          have hg := fk_rg h0
          have hg9 := hg.2.1 ‹_›
          all_goals (try with_reducible (repeat' (first | apply And.intro | intro _)))
          all_goals (try (first | with_reducible refine wa_id ?_ | exact True.intro | omega))
          (try simp (maxSteps := 10000000) (disch := omega) only [w64])
          refine V_ret (evs ?_)
          first | (exfalso; omega) | (unfold reachI; try unfold abs2; (repeat' split) <;> first | omega | rfl)
        · refine WA_seq (x := (fcd Tryz.f46 [1, 1, 0, 1, 0, 1, 1, 1, 1, 0])) (y := (fcd Tryz.f46 [1, 1, 0, 1, 0, 1, 1, 1, 1, 1])) ?_
          refine V_regionX Γ Δ [] [0, 1, 4, 8, 9, 10, 13, 30] (evs ?_)
          all_goals (try with_reducible (repeat' (first | apply And.intro | intro _)))
          all_goals (try (first | with_reducible refine wa_id ?_ | exact True.intro | omega))
          refine V_cond (evs ?_)
          refine ⟨fun hc => ?_, fun hc => ?_⟩
          · refine WA_seq (x := (fcd Tryz.f46 [1, 1, 0, 1, 0, 1, 1, 1, 1, 1, 0, 0])) (y := (fcd Tryz.f46 [1, 1, 0, 1, 0, 1, 1, 1, 1, 1, 0, 1])) ?_
            refine V_regionX Γ Δ [] [0, 1, 4, 8, 9, 10, 13, 30] (evs ?_)
            have h0 := ‹fchkE k ps = 0›
            have hg := fk_rg h0
            have hg10 := hg.2.2.1 ‹_›
            all_goals (try with_reducible (repeat' (first | apply And.intro | intro _)))
            all_goals (try (first | with_reducible refine wa_id ?_ | exact True.intro | omega))
            (try simp (maxSteps := 10000000) (disch := omega) only [w64])
            refine V_ret (evs ?_)
            first | (exfalso; omega) | (unfold reachI; try unfold abs2; (repeat' split) <;> first | omega | rfl)
          · refine WA_skip ?_
            refine WA_seq (x := (fcd Tryz.f46 [1, 1, 1, 0])) (y := (fcd Tryz.f46 [1, 1, 1, 1])) ?_
            refine V_regionX Γ Δ [] [0, 1, 4, 8, 9, 10, 13, 30] (evs ?_)
            have h0 := ‹fchkE k ps = 0›
            have hg := fk_rg h0
            have hg11 := hg.2.2.2.1 (by omega) (by omega)
            all_goals (try with_reducible (repeat' (first | apply And.intro | intro _)))
            all_goals (try (first | with_reducible refine wa_id ?_ | exact True.intro | omega))
            refine V_ret (evs ?_)
            first | (exfalso; omega) | (unfold reachI; try unfold abs2; (repeat' split) <;> first | omega | rfl)
    · refine V_regionX Γ Δ [] [0, 1, 4, 8, 9, 10, 13, 30] (evs ?_)
      all_goals (try with_reducible (repeat' (first | apply And.intro | intro _)))
      all_goals (try (first | with_reducible refine wa_id ?_ | exact True.intro | omega))
      refine V_cond (evs ?_)
      refine ⟨fun hc => ?_, fun hc => ?_⟩
      · refine WA_seq (x := (fcd Tryz.f46 [1, 1, 0, 1, 0, 1, 0, 0])) (y := (fcd Tryz.f46 [1, 1, 0, 1, 0, 1, 0, 1])) ?_
        refine V_regionX Γ Δ [] [0, 1, 4, 8, 9, 10, 13, 30] (evs ?_)
        all_goals (try with_reducible (repeat' (first | apply And.intro | intro _)))
        all_goals (try (first | with_reducible refine wa_id ?_ | exact True.intro | omega))
        refine V_ret (evs ?_)
        first | (exfalso; omega) | (unfold reachI; try unfold abs2; (repeat' split) <;> first | omega | rfl)
      · refine WA_seq (x := (fcd Tryz.f46 [1, 1, 0, 1, 0, 1, 1, 0])) (y := (fcd Tryz.f46 [1, 1, 0, 1, 0, 1, 1, 1])) ?_
        refine V_regionX Γ Δ [] [0, 1, 4, 8, 9, 10, 13, 30] (evs ?_)
        all_goals (try with_reducible (repeat' (first | apply And.intro | intro _)))
        all_goals (try (first | with_reducible refine wa_id ?_ | exact True.intro | omega))
        refine V_cond (evs ?_)
        refine ⟨fun hc => ?_, fun hc => ?_⟩
        · refine WA_seq (x := (fcd Tryz.f46 [1, 1, 0, 1, 0, 1, 1, 1, 0, 0])) (y := (fcd Tryz.f46 [1, 1, 0, 1, 0, 1, 1, 1, 0, 1])) ?_
          refine V_draw Γ [] [0, 1, 4, 8, 9, 10, 13, 30] mixed (by kernel_rfl) (evs ?_)
          have h0 := ‹fchkE k ps = 0›
          have hg := fk_rg h0
          have hg9 := hg.2.1 ‹_›
          all_goals (try with_reducible (repeat' (first | apply And.intro | intro _)))
          all_goals (try (first | with_reducible refine wa_id ?_ | exact True.intro | omega))
          (try simp (maxSteps := 10000000) (disch := omega) only [w64])
          refine V_ret (evs ?_)
          first | (exfalso; omega) | (unfold reachI; try unfold abs2; (repeat' split) <;> first | omega | rfl)
        · refine WA_seq (x := (fcd Tryz.f46 [1, 1, 0, 1, 0, 1, 1, 1, 1, 0])) (y := (fcd Tryz.f46 [1, 1, 0, 1, 0, 1, 1, 1, 1, 1])) ?_
          refine V_regionX Γ Δ [] [0, 1, 4, 8, 9, 10, 13, 30] (evs ?_)
          all_goals (try with_reducible (repeat' (first | apply And.intro | intro _)))
          all_goals (try (first | with_reducible refine wa_id ?_ | exact True.intro | omega))
          refine V_cond (evs ?_)
          refine ⟨fun hc => ?_, fun hc => ?_⟩
          · refine WA_seq (x := (fcd Tryz.f46 [1, 1, 0, 1, 0, 1, 1, 1, 1, 1, 0, 0])) (y := (fcd Tryz.f46 [1, 1, 0, 1, 0, 1, 1, 1, 1, 1, 0, 1])) ?_
            refine V_regionX Γ Δ [] [0, 1, 4, 8, 9, 10, 13, 30] (evs ?_)
            have h0 := ‹fchkE k ps = 0›
            have hg := fk_rg h0
            have hg10 := hg.2.2.1 ‹_›
            all_goals (try with_reducible (repeat' (first | apply And.intro | intro _)))
            all_goals (try (first | with_reducible refine wa_id ?_ | exact True.intro | omega))
            (try simp (maxSteps := 10000000) (disch := omega) only [w64])
            refine V_ret (evs ?_)
            first | (exfalso; omega) | (unfold reachI; try unfold abs2; (repeat' split) <;> first | omega | rfl)
          · refine WA_skip ?_
            refine WA_seq (x := (fcd Tryz.f46 [1, 1, 1, 0])) (y := (fcd Tryz.f46 [1, 1, 1, 1])) ?_
            refine V_regionX Γ Δ [] [0, 1, 4, 8, 9, 10, 13, 30] (evs ?_)
            have h0 := ‹fchkE k ps = 0›
            have hg := fk_rg h0
            have hg11 := hg.2.2.2.1 (by omega) (by omega)
            all_goals (try with_reducible (repeat' (first | apply And.intro | intro _)))
            all_goals (try (first | with_reducible refine wa_id ?_ | exact True.intro | omega))
            refine V_ret (evs ?_)
            first | (exfalso; omega) | (unfold reachI; try unfold abs2; (repeat' split) <;> first | omega | rfl)

end Go.S16

