import Derived.Test.YtppghgoeibelkaaLF
import Derived.Test.YtppghgoeibelkaaB23
import Derived.Test.YtppghgoeibelkaaB10
set_option linter.unusedSimpArgs false
set_option linter.unusedVariables false
namespace Go.S23
open Go.RowKit Go.Proofs Go.Eng Go.Rect
set_option maxHeartbeats 8000000 in
set_option maxRecDepth 100000 in
/-- imageeditor/imageeditorlaw23.MaskAlgebra -/
theorem l_algebra (a b : Mk) : Eng.Fn Try.prog 10 [mkD a, mkD b] (.dat (.b true)) := by
  refine Eng.Fn.by (fn := Try.f10) 156 [.tmp 4] Try.func10 rfl Try.ntmps10 rfl (by simp) fun w0 => ?_
  refine WA_seq (x := (fcd Try.f10 [0])) (y := (fcd Try.f10 [1])) ?_
  refine V_regionX Γ Δ [19, 23, 28, 45, 48, 53, 58, 71, 77, 83, 92, 98, 104, 113, 118, 124, 133, 139, 145, 154] [0, 1, 2, 3, 4, 5, 6, 7, 8, 9, 10, 11, 12, 13, 14, 15, 16, 17, 18, 44, 73, 94, 115, 135] (evs ?_)
  all_goals (try with_reducible (repeat' (first | apply And.intro | intro _)))
  all_goals (try (first | with_reducible refine wa_id ?_ | exact True.intro | omega))
  refine WA_seq (x := (fcd Try.f10 [1, 0])) (y := (fcd Try.f10 [1, 1])) ?_
  refine WA_seq (x := (fcd Try.f10 [1, 0, 0])) (y := (fcd Try.f10 [1, 0, 1])) ?_
  refine V_regionX Γ Δ [19, 23, 28, 45, 48, 53, 58, 71, 77, 83, 92, 98, 104, 113, 118, 124, 133, 139, 145, 154] [0, 1, 2, 3, 4, 5, 6, 7, 8, 9, 10, 11, 12, 13, 14, 15, 16, 17, 18, 44, 73, 94, 115, 135] (evs ?_)
  all_goals (try with_reducible (repeat' (first | apply And.intro | intro _)))
  all_goals (try (first | with_reducible refine wa_id ?_ | exact True.intro | exact awake_fn | exact mcheck_fn ⟨_, _, _⟩ | omega))
  refine V_cond (evs ?_)
  refine ⟨fun hc => ?_, fun hc => ?_⟩
  · refine WA_seq (x := (fcd Try.f10 [1, 0, 1, 0, 0])) (y := (fcd Try.f10 [1, 0, 1, 0, 1])) ?_
    refine V_regionX Γ Δ [19, 23, 28, 45, 48, 53, 58, 71, 77, 83, 92, 98, 104, 113, 118, 124, 133, 139, 145, 154] [0, 1, 2, 3, 4, 5, 6, 7, 8, 9, 10, 11, 12, 13, 14, 15, 16, 17, 18, 44, 73, 94, 115, 135] (evs ?_)
    all_goals (try with_reducible (repeat' (first | apply And.intro | intro _)))
    all_goals (try (first | with_reducible refine wa_id ?_ | exact True.intro | exact awake_fn | omega))
    refine V_ret (evs ?_)
    first | exact True.intro | (exfalso; simp [sameM, ha, hb, ia, ib, ii, A.1, A.2.1, A.2.2.1, A.2.2.2.1, A.2.2.2.2.1, A.2.2.2.2.2.1, A.2.2.2.2.2.2.1, A.2.2.2.2.2.2.2.1, A.2.2.2.2.2.2.2.2.1] at hc; done) | (simp [sameM, A.2.2.2.2.2.2.2.2.2.1, A.2.2.2.2.2.2.2.2.2.2.1, A.2.2.2.2.2.2.2.2.2.2.2]; done)
  · refine WA_skip ?_
    refine WA_seq (x := (fcd Try.f10 [1, 1, 0])) (y := (fcd Try.f10 [1, 1, 1])) ?_
    refine V_regionX Γ Δ [19, 23, 28, 45, 48, 53, 58, 71, 77, 83, 92, 98, 104, 113, 118, 124, 133, 139, 145, 154] [0, 1, 2, 3, 4, 5, 6, 7, 8, 9, 10, 11, 12, 13, 14, 15, 16, 17, 18, 44, 73, 94, 115, 135] (evs ?_)
    have ha := hc.1.1.1
    have hb := hc.1.1.2
    have hw : a.w = b.w ∧ a.h = b.h := ⟨hc.1.2, hc.2⟩
    have A := alg ha hb hw
    have ia := inv_ok ha
    have ib := inv_ok hb
    have ii := inv_inv ha
    all_goals (try with_reducible (repeat' (first | apply And.intro | intro _)))
    all_goals (try (first | with_reducible refine wa_id ?_ | exact True.intro | exact inv_fn ⟨_, _, _⟩ | omega))
    refine WA_seq (x := (fcd Try.f10 [1, 1, 1, 0])) (y := (fcd Try.f10 [1, 1, 1, 1])) ?_
    refine V_regionX Γ Δ [19, 23, 28, 45, 48, 53, 58, 71, 77, 83, 92, 98, 104, 113, 118, 124, 133, 139, 145, 154] [0, 1, 2, 3, 4, 5, 6, 7, 8, 9, 10, 11, 12, 13, 14, 15, 16, 17, 18, 44, 73, 94, 115, 135] (evs ?_)
    all_goals (try with_reducible (repeat' (first | apply And.intro | intro _)))
    all_goals (try (first | with_reducible refine wa_id ?_ | exact True.intro | exact inv_fn ⟨_, _, _⟩ | omega))
    refine WA_seq (x := (fcd Try.f10 [1, 1, 1, 1, 0])) (y := (fcd Try.f10 [1, 1, 1, 1, 1])) ?_
    refine V_regionX Γ Δ [19, 23, 28, 45, 48, 53, 58, 71, 77, 83, 92, 98, 104, 113, 118, 124, 133, 139, 145, 154] [0, 1, 2, 3, 4, 5, 6, 7, 8, 9, 10, 11, 12, 13, 14, 15, 16, 17, 18, 44, 73, 94, 115, 135] (evs ?_)
    all_goals (try with_reducible (repeat' (first | apply And.intro | intro _)))
    all_goals (try (first | with_reducible refine wa_id ?_ | exact True.intro | exact inv_fn ⟨_, _, _⟩ | omega))
    refine WA_seq (x := (fcd Try.f10 [1, 1, 1, 1, 1, 0])) (y := (fcd Try.f10 [1, 1, 1, 1, 1, 1])) ?_
    refine WA_seq (x := (fcd Try.f10 [1, 1, 1, 1, 1, 0, 0])) (y := (fcd Try.f10 [1, 1, 1, 1, 1, 0, 1])) ?_
    refine V_regionX Γ Δ [19, 23, 28, 45, 48, 53, 58, 71, 77, 83, 92, 98, 104, 113, 118, 124, 133, 139, 145, 154] [0, 1, 2, 3, 4, 5, 6, 7, 8, 9, 10, 11, 12, 13, 14, 15, 16, 17, 18, 44, 73, 94, 115, 135] (evs ?_)
    all_goals (try with_reducible (repeat' (first | apply And.intro | intro _)))
    all_goals (try (first | with_reducible refine wa_id ?_ | exact True.intro | exact is_fn ⟨_, _, _⟩ _ ⟨_, _, _⟩ | omega))
    refine V_cond (evs ?_)
    refine ⟨fun hc => ?_, fun hc => ?_⟩
    · refine WA_seq (x := (fcd Try.f10 [1, 1, 1, 1, 1, 0, 1, 0, 0])) (y := (fcd Try.f10 [1, 1, 1, 1, 1, 0, 1, 0, 1])) ?_
      refine V_regionX Γ Δ [19, 23, 28, 45, 48, 53, 58, 71, 77, 83, 92, 98, 104, 113, 118, 124, 133, 139, 145, 154] [0, 1, 2, 3, 4, 5, 6, 7, 8, 9, 10, 11, 12, 13, 14, 15, 16, 17, 18, 44, 73, 94, 115, 135] (evs ?_)
      all_goals (try with_reducible (repeat' (first | apply And.intro | intro _)))
      all_goals (try (first | with_reducible refine wa_id ?_ | exact True.intro | omega))
      refine V_ret (evs ?_)
      first | exact True.intro | (exfalso; simp [sameM, ha, hb, ia, ib, ii, A.1, A.2.1, A.2.2.1, A.2.2.2.1, A.2.2.2.2.1, A.2.2.2.2.2.1, A.2.2.2.2.2.2.1, A.2.2.2.2.2.2.2.1, A.2.2.2.2.2.2.2.2.1] at hc; done) | (simp [sameM, A.2.2.2.2.2.2.2.2.2.1, A.2.2.2.2.2.2.2.2.2.2.1, A.2.2.2.2.2.2.2.2.2.2.2]; done)
    · refine WA_skip ?_
      refine WA_seq (x := (fcd Try.f10 [1, 1, 1, 1, 1, 1, 0])) (y := (fcd Try.f10 [1, 1, 1, 1, 1, 1, 1])) ?_
      refine V_regionX Γ Δ [19, 23, 28, 45, 48, 53, 58, 71, 77, 83, 92, 98, 104, 113, 118, 124, 133, 139, 145, 154] [0, 1, 2, 3, 4, 5, 6, 7, 8, 9, 10, 11, 12, 13, 14, 15, 16, 17, 18, 44, 73, 94, 115, 135] (evs ?_)
      all_goals (try with_reducible (repeat' (first | apply And.intro | intro _)))
      all_goals (try (first | with_reducible refine wa_id ?_ | exact True.intro | exact comb_fn ⟨_, _, _⟩ ⟨_, _, _⟩ _ | omega))
      refine WA_seq (x := (fcd Try.f10 [1, 1, 1, 1, 1, 1, 1, 0])) (y := (fcd Try.f10 [1, 1, 1, 1, 1, 1, 1, 1])) ?_
      refine V_regionX Γ Δ [19, 23, 28, 45, 48, 53, 58, 71, 77, 83, 92, 98, 104, 113, 118, 124, 133, 139, 145, 154] [0, 1, 2, 3, 4, 5, 6, 7, 8, 9, 10, 11, 12, 13, 14, 15, 16, 17, 18, 44, 73, 94, 115, 135] (evs ?_)
      all_goals (try with_reducible (repeat' (first | apply And.intro | intro _)))
      all_goals (try (first | with_reducible refine wa_id ?_ | exact True.intro | exact comb_fn ⟨_, _, _⟩ ⟨_, _, _⟩ _ | omega))
      refine WA_seq (x := (fcd Try.f10 [1, 1, 1, 1, 1, 1, 1, 1, 0])) (y := (fcd Try.f10 [1, 1, 1, 1, 1, 1, 1, 1, 1])) ?_
      refine WA_seq (x := (fcd Try.f10 [1, 1, 1, 1, 1, 1, 1, 1, 0, 0])) (y := (fcd Try.f10 [1, 1, 1, 1, 1, 1, 1, 1, 0, 1])) ?_
      refine V_regionX Γ Δ [19, 23, 28, 45, 48, 53, 58, 71, 77, 83, 92, 98, 104, 113, 118, 124, 133, 139, 145, 154] [0, 1, 2, 3, 4, 5, 6, 7, 8, 9, 10, 11, 12, 13, 14, 15, 16, 17, 18, 44, 73, 94, 115, 135] (evs ?_)
      all_goals (try with_reducible (repeat' (first | apply And.intro | intro _)))
      all_goals (try (first | with_reducible refine wa_id ?_ | exact True.intro | exact is_fn ⟨_, _, _⟩ _ ⟨_, _, _⟩ | omega))
      refine V_cond (evs ?_)
      refine ⟨fun hc => ?_, fun hc => ?_⟩
      · refine WA_seq (x := (fcd Try.f10 [1, 1, 1, 1, 1, 1, 1, 1, 0, 1, 0, 0])) (y := (fcd Try.f10 [1, 1, 1, 1, 1, 1, 1, 1, 0, 1, 0, 1])) ?_
        refine V_regionX Γ Δ [19, 23, 28, 45, 48, 53, 58, 71, 77, 83, 92, 98, 104, 113, 118, 124, 133, 139, 145, 154] [0, 1, 2, 3, 4, 5, 6, 7, 8, 9, 10, 11, 12, 13, 14, 15, 16, 17, 18, 44, 73, 94, 115, 135] (evs ?_)
        all_goals (try with_reducible (repeat' (first | apply And.intro | intro _)))
        all_goals (try (first | with_reducible refine wa_id ?_ | exact True.intro | omega))
        refine V_ret (evs ?_)
        first | exact True.intro | (exfalso; simp [sameM, ha, hb, ia, ib, ii, A.1, A.2.1, A.2.2.1, A.2.2.2.1, A.2.2.2.2.1, A.2.2.2.2.2.1, A.2.2.2.2.2.2.1, A.2.2.2.2.2.2.2.1, A.2.2.2.2.2.2.2.2.1] at hc; done) | (simp [sameM, A.2.2.2.2.2.2.2.2.2.1, A.2.2.2.2.2.2.2.2.2.2.1, A.2.2.2.2.2.2.2.2.2.2.2]; done)
      · refine WA_skip ?_
        refine WA_seq (x := (fcd Try.f10 [1, 1, 1, 1, 1, 1, 1, 1, 1, 0])) (y := (fcd Try.f10 [1, 1, 1, 1, 1, 1, 1, 1, 1, 1])) ?_
        refine V_regionX Γ Δ [19, 23, 28, 45, 48, 53, 58, 71, 77, 83, 92, 98, 104, 113, 118, 124, 133, 139, 145, 154] [0, 1, 2, 3, 4, 5, 6, 7, 8, 9, 10, 11, 12, 13, 14, 15, 16, 17, 18, 44, 73, 94, 115, 135] (evs ?_)
        all_goals (try with_reducible (repeat' (first | apply And.intro | intro _)))
        all_goals (try (first | with_reducible refine wa_id ?_ | exact True.intro | exact comb_fn ⟨_, _, _⟩ ⟨_, _, _⟩ _ | omega))
        refine WA_seq (x := (fcd Try.f10 [1, 1, 1, 1, 1, 1, 1, 1, 1, 1, 0])) (y := (fcd Try.f10 [1, 1, 1, 1, 1, 1, 1, 1, 1, 1, 1])) ?_
        refine V_regionX Γ Δ [19, 23, 28, 45, 48, 53, 58, 71, 77, 83, 92, 98, 104, 113, 118, 124, 133, 139, 145, 154] [0, 1, 2, 3, 4, 5, 6, 7, 8, 9, 10, 11, 12, 13, 14, 15, 16, 17, 18, 44, 73, 94, 115, 135] (evs ?_)
        all_goals (try with_reducible (repeat' (first | apply And.intro | intro _)))
        all_goals (try (first | with_reducible refine wa_id ?_ | exact True.intro | exact comb_fn ⟨_, _, _⟩ ⟨_, _, _⟩ _ | omega))
        refine WA_seq (x := (fcd Try.f10 [1, 1, 1, 1, 1, 1, 1, 1, 1, 1, 1, 0])) (y := (fcd Try.f10 [1, 1, 1, 1, 1, 1, 1, 1, 1, 1, 1, 1])) ?_
        refine WA_seq (x := (fcd Try.f10 [1, 1, 1, 1, 1, 1, 1, 1, 1, 1, 1, 0, 0])) (y := (fcd Try.f10 [1, 1, 1, 1, 1, 1, 1, 1, 1, 1, 1, 0, 1])) ?_
        refine V_regionX Γ Δ [19, 23, 28, 45, 48, 53, 58, 71, 77, 83, 92, 98, 104, 113, 118, 124, 133, 139, 145, 154] [0, 1, 2, 3, 4, 5, 6, 7, 8, 9, 10, 11, 12, 13, 14, 15, 16, 17, 18, 44, 73, 94, 115, 135] (evs ?_)
        all_goals (try with_reducible (repeat' (first | apply And.intro | intro _)))
        all_goals (try (first | with_reducible refine wa_id ?_ | exact True.intro | exact is_fn ⟨_, _, _⟩ _ ⟨_, _, _⟩ | omega))
        refine V_cond (evs ?_)
        refine ⟨fun hc => ?_, fun hc => ?_⟩
        · refine WA_seq (x := (fcd Try.f10 [1, 1, 1, 1, 1, 1, 1, 1, 1, 1, 1, 0, 1, 0, 0])) (y := (fcd Try.f10 [1, 1, 1, 1, 1, 1, 1, 1, 1, 1, 1, 0, 1, 0, 1])) ?_
          refine V_regionX Γ Δ [19, 23, 28, 45, 48, 53, 58, 71, 77, 83, 92, 98, 104, 113, 118, 124, 133, 139, 145, 154] [0, 1, 2, 3, 4, 5, 6, 7, 8, 9, 10, 11, 12, 13, 14, 15, 16, 17, 18, 44, 73, 94, 115, 135] (evs ?_)
          all_goals (try with_reducible (repeat' (first | apply And.intro | intro _)))
          all_goals (try (first | with_reducible refine wa_id ?_ | exact True.intro | omega))
          refine V_ret (evs ?_)
          first | exact True.intro | (exfalso; simp [sameM, ha, hb, ia, ib, ii, A.1, A.2.1, A.2.2.1, A.2.2.2.1, A.2.2.2.2.1, A.2.2.2.2.2.1, A.2.2.2.2.2.2.1, A.2.2.2.2.2.2.2.1, A.2.2.2.2.2.2.2.2.1] at hc; done) | (simp [sameM, A.2.2.2.2.2.2.2.2.2.1, A.2.2.2.2.2.2.2.2.2.2.1, A.2.2.2.2.2.2.2.2.2.2.2]; done)
        · refine WA_skip ?_
          refine WA_seq (x := (fcd Try.f10 [1, 1, 1, 1, 1, 1, 1, 1, 1, 1, 1, 1, 0])) (y := (fcd Try.f10 [1, 1, 1, 1, 1, 1, 1, 1, 1, 1, 1, 1, 1])) ?_
          refine V_regionX Γ Δ [19, 23, 28, 45, 48, 53, 58, 71, 77, 83, 92, 98, 104, 113, 118, 124, 133, 139, 145, 154] [0, 1, 2, 3, 4, 5, 6, 7, 8, 9, 10, 11, 12, 13, 14, 15, 16, 17, 18, 44, 73, 94, 115, 135] (evs ?_)
          all_goals (try with_reducible (repeat' (first | apply And.intro | intro _)))
          all_goals (try (first | with_reducible refine wa_id ?_ | exact True.intro | exact inv_fn ⟨_, _, _⟩ | omega))
          refine WA_seq (x := (fcd Try.f10 [1, 1, 1, 1, 1, 1, 1, 1, 1, 1, 1, 1, 1, 0])) (y := (fcd Try.f10 [1, 1, 1, 1, 1, 1, 1, 1, 1, 1, 1, 1, 1, 1])) ?_
          refine V_regionX Γ Δ [19, 23, 28, 45, 48, 53, 58, 71, 77, 83, 92, 98, 104, 113, 118, 124, 133, 139, 145, 154] [0, 1, 2, 3, 4, 5, 6, 7, 8, 9, 10, 11, 12, 13, 14, 15, 16, 17, 18, 44, 73, 94, 115, 135] (evs ?_)
          all_goals (try with_reducible (repeat' (first | apply And.intro | intro _)))
          all_goals (try (first | with_reducible refine wa_id ?_ | exact True.intro | exact comb_fn ⟨_, _, _⟩ ⟨_, _, _⟩ _ | omega))
          refine WA_seq (x := (fcd Try.f10 [1, 1, 1, 1, 1, 1, 1, 1, 1, 1, 1, 1, 1, 1, 0])) (y := (fcd Try.f10 [1, 1, 1, 1, 1, 1, 1, 1, 1, 1, 1, 1, 1, 1, 1])) ?_
          refine WA_seq (x := (fcd Try.f10 [1, 1, 1, 1, 1, 1, 1, 1, 1, 1, 1, 1, 1, 1, 0, 0])) (y := (fcd Try.f10 [1, 1, 1, 1, 1, 1, 1, 1, 1, 1, 1, 1, 1, 1, 0, 1])) ?_
          refine V_regionX Γ Δ [19, 23, 28, 45, 48, 53, 58, 71, 77, 83, 92, 98, 104, 113, 118, 124, 133, 139, 145, 154] [0, 1, 2, 3, 4, 5, 6, 7, 8, 9, 10, 11, 12, 13, 14, 15, 16, 17, 18, 44, 73, 94, 115, 135] (evs ?_)
          all_goals (try with_reducible (repeat' (first | apply And.intro | intro _)))
          all_goals (try (first | with_reducible refine wa_id ?_ | exact True.intro | exact is_fn ⟨_, _, _⟩ _ ⟨_, _, _⟩ | omega))
          refine V_cond (evs ?_)
          refine ⟨fun hc => ?_, fun hc => ?_⟩
          · refine WA_seq (x := (fcd Try.f10 [1, 1, 1, 1, 1, 1, 1, 1, 1, 1, 1, 1, 1, 1, 0, 1, 0, 0])) (y := (fcd Try.f10 [1, 1, 1, 1, 1, 1, 1, 1, 1, 1, 1, 1, 1, 1, 0, 1, 0, 1])) ?_
            refine V_regionX Γ Δ [19, 23, 28, 45, 48, 53, 58, 71, 77, 83, 92, 98, 104, 113, 118, 124, 133, 139, 145, 154] [0, 1, 2, 3, 4, 5, 6, 7, 8, 9, 10, 11, 12, 13, 14, 15, 16, 17, 18, 44, 73, 94, 115, 135] (evs ?_)
            all_goals (try with_reducible (repeat' (first | apply And.intro | intro _)))
            all_goals (try (first | with_reducible refine wa_id ?_ | exact True.intro | omega))
            refine V_ret (evs ?_)
            first | exact True.intro | (exfalso; simp [sameM, ha, hb, ia, ib, ii, A.1, A.2.1, A.2.2.1, A.2.2.2.1, A.2.2.2.2.1, A.2.2.2.2.2.1, A.2.2.2.2.2.2.1, A.2.2.2.2.2.2.2.1, A.2.2.2.2.2.2.2.2.1] at hc; done) | (simp [sameM, A.2.2.2.2.2.2.2.2.2.1, A.2.2.2.2.2.2.2.2.2.2.1, A.2.2.2.2.2.2.2.2.2.2.2]; done)
          · refine WA_skip ?_
            refine WA_seq (x := (fcd Try.f10 [1, 1, 1, 1, 1, 1, 1, 1, 1, 1, 1, 1, 1, 1, 1, 0])) (y := (fcd Try.f10 [1, 1, 1, 1, 1, 1, 1, 1, 1, 1, 1, 1, 1, 1, 1, 1])) ?_
            refine V_regionX Γ Δ [19, 23, 28, 45, 48, 53, 58, 71, 77, 83, 92, 98, 104, 113, 118, 124, 133, 139, 145, 154] [0, 1, 2, 3, 4, 5, 6, 7, 8, 9, 10, 11, 12, 13, 14, 15, 16, 17, 18, 44, 73, 94, 115, 135] (evs ?_)
            all_goals (try with_reducible (repeat' (first | apply And.intro | intro _)))
            all_goals (try (first | with_reducible refine wa_id ?_ | exact True.intro | exact comb_fn ⟨_, _, _⟩ ⟨_, _, _⟩ _ | omega))
            refine WA_seq (x := (fcd Try.f10 [1, 1, 1, 1, 1, 1, 1, 1, 1, 1, 1, 1, 1, 1, 1, 1, 0])) (y := (fcd Try.f10 [1, 1, 1, 1, 1, 1, 1, 1, 1, 1, 1, 1, 1, 1, 1, 1, 1])) ?_
            refine V_regionX Γ Δ [19, 23, 28, 45, 48, 53, 58, 71, 77, 83, 92, 98, 104, 113, 118, 124, 133, 139, 145, 154] [0, 1, 2, 3, 4, 5, 6, 7, 8, 9, 10, 11, 12, 13, 14, 15, 16, 17, 18, 44, 73, 94, 115, 135] (evs ?_)
            all_goals (try with_reducible (repeat' (first | apply And.intro | intro _)))
            all_goals (try (first | with_reducible refine wa_id ?_ | exact True.intro | exact comb_fn ⟨_, _, _⟩ ⟨_, _, _⟩ _ | omega))
            refine WA_seq (x := (fcd Try.f10 [1, 1, 1, 1, 1, 1, 1, 1, 1, 1, 1, 1, 1, 1, 1, 1, 1, 0])) (y := (fcd Try.f10 [1, 1, 1, 1, 1, 1, 1, 1, 1, 1, 1, 1, 1, 1, 1, 1, 1, 1])) ?_
            refine V_regionX Γ Δ [19, 23, 28, 45, 48, 53, 58, 71, 77, 83, 92, 98, 104, 113, 118, 124, 133, 139, 145, 154] [0, 1, 2, 3, 4, 5, 6, 7, 8, 9, 10, 11, 12, 13, 14, 15, 16, 17, 18, 44, 73, 94, 115, 135] (evs ?_)
            all_goals (try with_reducible (repeat' (first | apply And.intro | intro _)))
            all_goals (try (first | with_reducible refine wa_id ?_ | exact True.intro | exact is_fn ⟨_, _, _⟩ _ ⟨_, _, _⟩ | omega))
            refine V_ret (evs ?_)
            first | exact True.intro | (exfalso; simp [sameM, ha, hb, ia, ib, ii, A.1, A.2.1, A.2.2.1, A.2.2.2.1, A.2.2.2.2.1, A.2.2.2.2.2.1, A.2.2.2.2.2.2.1, A.2.2.2.2.2.2.2.1, A.2.2.2.2.2.2.2.2.1] at hc; done) | (simp [sameM, A.2.2.2.2.2.2.2.2.2.1, A.2.2.2.2.2.2.2.2.2.2.1, A.2.2.2.2.2.2.2.2.2.2.2]; done)

end Go.S23

