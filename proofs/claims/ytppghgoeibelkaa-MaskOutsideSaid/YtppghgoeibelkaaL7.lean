import Derived.Test.YtppghgoeibelkaaLF
import Derived.Test.YtppghgoeibelkaaB23
set_option linter.unusedSimpArgs false
set_option linter.unusedVariables false
namespace Go.S23
open Go.RowKit Go.Proofs Go.Eng Go.Rect
set_option maxHeartbeats 8000000 in
set_option maxRecDepth 100000 in
/-- imageeditor/imageeditorlaw23.MaskOutside -/
theorem l_outside (a b : Im) (m : Mk) : Eng.Fn Try.prog 7 [imD a, imD b, mkD m] (.dat (.b true)) := by
  refine Eng.Fn.by (fn := Try.f7) 117 [.tmp 6] Try.func7 rfl Try.ntmps7 rfl (by simp) fun w0 => ?_
  refine WA_seq (x := (fcd Try.f7 [0])) (y := (fcd Try.f7 [1])) ?_
  refine V_regionX Γ Δ [15, 18, 24, 28, 32, 36, 39, 42, 47, 50, 56, 59, 78] [0, 1, 2, 3, 4, 5, 6, 7, 8, 9, 10, 23, 33, 75, 77, 78, 79, 80, 115] (evs ?_)
  all_goals (try with_reducible (repeat' (first | apply And.intro | intro _)))
  all_goals (try (first | with_reducible refine wa_id ?_ | exact True.intro | omega | exact Fn.nilI 4 (sameI_fn ⟨_, _, _⟩ ⟨0, 0, []⟩)))
  refine WA_seq (x := (fcd Try.f7 [1, 0])) (y := (fcd Try.f7 [1, 1])) ?_
  refine V_regionX Γ Δ [15, 18, 24, 28, 32, 36, 39, 42, 47, 50, 56, 59, 78] [0, 1, 2, 3, 4, 5, 6, 7, 8, 9, 10, 23, 33, 75, 77, 78, 79, 80, 115] (evs ?_)
  all_goals (try with_reducible (repeat' (first | apply And.intro | intro _)))
  all_goals (try (first | with_reducible refine wa_id ?_ | exact True.intro | exact mx_fn ⟨_, _, _⟩ ⟨_, _, _⟩ ⟨_, _, _⟩ | omega | exact Fn.nilI 4 (sameI_fn ⟨_, _, _⟩ ⟨0, 0, []⟩)))
  refine WA_seq (x := (fcd Try.f7 [1, 1, 0])) (y := (fcd Try.f7 [1, 1, 1])) ?_
  refine WA_seq (x := (fcd Try.f7 [1, 1, 0, 0])) (y := (fcd Try.f7 [1, 1, 0, 1])) ?_
  refine V_regionX Γ Δ [15, 18, 24, 28, 32, 36, 39, 42, 47, 50, 56, 59, 78] [0, 1, 2, 3, 4, 5, 6, 7, 8, 9, 10, 23, 33, 75, 77, 78, 79, 80, 115] (evs ?_)
  all_goals (try with_reducible (repeat' (first | apply And.intro | intro _)))
  all_goals (try (first | with_reducible refine wa_id ?_ | exact True.intro | exact awake_fn | omega | exact Fn.nilI 4 (sameI_fn ⟨_, _, _⟩ ⟨0, 0, []⟩)))
  refine V_cond (evs ?_)
  refine ⟨fun hc => ?_, fun hc => ?_⟩
  · refine WA_seq (x := (fcd Try.f7 [1, 1, 0, 1, 0, 0])) (y := (fcd Try.f7 [1, 1, 0, 1, 0, 1])) ?_
    refine V_regionX Γ Δ [15, 18, 24, 28, 32, 36, 39, 42, 47, 50, 56, 59, 78] [0, 1, 2, 3, 4, 5, 6, 7, 8, 9, 10, 23, 33, 75, 77, 78, 79, 80, 115] (evs ?_)
    all_goals (try with_reducible (repeat' (first | apply And.intro | intro _)))
    all_goals (try (first | with_reducible refine wa_id ?_ | exact True.intro | exact awake_fn | exact sameI_fn ⟨_, _, _⟩ ⟨_, _, _⟩ | omega | exact Fn.nilI 4 (sameI_fn ⟨_, _, _⟩ ⟨0, 0, []⟩)))
    refine V_ret (evs ?_)
    first | exact True.intro | (simp [sameI, ou_0 hc]; done) | (simp [sameI, ou_1 he hc]; done) | (exfalso; simp [L.1, L.2.1, L.2.2.1, L.2.2.2.1, L.2.2.2.2] at hc; done) | exact (ou_2 he hk0 ‹(k : Int) < _› hc).elim
  · refine WA_skip ?_
    refine WA_seq (x := (fcd Try.f7 [1, 1, 1, 0])) (y := (fcd Try.f7 [1, 1, 1, 1])) ?_
    refine WA_seq (x := (fcd Try.f7 [1, 1, 1, 0, 0])) (y := (fcd Try.f7 [1, 1, 1, 0, 1])) ?_
    refine V_regionX Γ Δ [15, 18, 24, 28, 32, 36, 39, 42, 47, 50, 56, 59, 78] [0, 1, 2, 3, 4, 5, 6, 7, 8, 9, 10, 23, 33, 75, 77, 78, 79, 80, 115] (evs ?_)
    have he := hc
    all_goals (try with_reducible (repeat' (first | apply And.intro | intro _)))
    all_goals (try (first | with_reducible refine wa_id ?_ | exact True.intro | omega | exact Fn.nilI 4 (sameI_fn ⟨_, _, _⟩ ⟨0, 0, []⟩)))
    refine V_cond (evs ?_)
    refine ⟨fun hc => ?_, fun hc => ?_⟩
    · refine WA_seq (x := (fcd Try.f7 [1, 1, 1, 0, 1, 0, 0])) (y := (fcd Try.f7 [1, 1, 1, 0, 1, 0, 1])) ?_
      refine V_regionX Γ Δ [15, 18, 24, 28, 32, 36, 39, 42, 47, 50, 56, 59, 78] [0, 1, 2, 3, 4, 5, 6, 7, 8, 9, 10, 23, 33, 75, 77, 78, 79, 80, 115] (evs ?_)
      all_goals (try with_reducible (repeat' (first | apply And.intro | intro _)))
      all_goals (try (first | with_reducible refine wa_id ?_ | exact True.intro | exact sameI_fn ⟨_, _, _⟩ ⟨_, _, _⟩ | omega | exact Fn.nilI 4 (sameI_fn ⟨_, _, _⟩ ⟨0, 0, []⟩)))
      refine V_ret (evs ?_)
      first | exact True.intro | (simp [sameI, ou_0 hc]; done) | (simp [sameI, ou_1 he hc]; done) | (exfalso; simp [L.1, L.2.1, L.2.2.1, L.2.2.2.1, L.2.2.2.2] at hc; done) | exact (ou_2 he hk0 ‹(k : Int) < _› hc).elim
    · refine WA_skip ?_
      refine WA_seq (x := (fcd Try.f7 [1, 1, 1, 1, 0])) (y := (fcd Try.f7 [1, 1, 1, 1, 1])) ?_
      refine WA_seq (x := (fcd Try.f7 [1, 1, 1, 1, 0, 0])) (y := (fcd Try.f7 [1, 1, 1, 1, 0, 1])) ?_
      refine V_regionX Γ Δ [15, 18, 24, 28, 32, 36, 39, 42, 47, 50, 56, 59, 78] [0, 1, 2, 3, 4, 5, 6, 7, 8, 9, 10, 23, 33, 75, 77, 78, 79, 80, 115] (evs ?_)
      have hk0 := hc
      have L := ou_len he hc
      all_goals (try with_reducible (repeat' (first | apply And.intro | intro _)))
      all_goals (try (first | with_reducible refine wa_id ?_ | exact True.intro | omega | exact Fn.nilI 4 (sameI_fn ⟨_, _, _⟩ ⟨0, 0, []⟩)))
      refine V_cond (evs ?_)
      refine ⟨fun hc => ?_, fun hc => ?_⟩
      · refine WA_seq (x := (fcd Try.f7 [1, 1, 1, 1, 0, 1, 0, 0])) (y := (fcd Try.f7 [1, 1, 1, 1, 0, 1, 0, 1])) ?_
        refine V_regionX Γ Δ [15, 18, 24, 28, 32, 36, 39, 42, 47, 50, 56, 59, 78] [0, 1, 2, 3, 4, 5, 6, 7, 8, 9, 10, 23, 33, 75, 77, 78, 79, 80, 115] (evs ?_)
        all_goals (try with_reducible (repeat' (first | apply And.intro | intro _)))
        all_goals (try (first | with_reducible refine wa_id ?_ | exact True.intro | omega | exact Fn.nilI 4 (sameI_fn ⟨_, _, _⟩ ⟨0, 0, []⟩)))
        refine V_ret (evs ?_)
        first | exact True.intro | (simp [sameI, ou_0 hc]; done) | (simp [sameI, ou_1 he hc]; done) | (exfalso; simp [L.1, L.2.1, L.2.2.1, L.2.2.2.1, L.2.2.2.2] at hc; done) | exact (ou_2 he hk0 ‹(k : Int) < _› hc).elim
      · refine WA_skip ?_
        refine WA_seq (x := (fcd Try.f7 [1, 1, 1, 1, 1, 0])) (y := (fcd Try.f7 [1, 1, 1, 1, 1, 1])) ?_
        refine WA_seq (x := (fcd Try.f7 [1, 1, 1, 1, 1, 0, 0])) (y := (fcd Try.f7 [1, 1, 1, 1, 1, 0, 1])) ?_
        refine V_regionX Γ Δ [15, 18, 24, 28, 32, 36, 39, 42, 47, 50, 56, 59, 78] [0, 1, 2, 3, 4, 5, 6, 7, 8, 9, 10, 23, 33, 75, 77, 78, 79, 80, 115] (evs ?_)
        all_goals (try with_reducible (repeat' (first | apply And.intro | intro _)))
        all_goals (try (first | with_reducible refine wa_id ?_ | exact True.intro | omega | exact Fn.nilI 4 (sameI_fn ⟨_, _, _⟩ ⟨0, 0, []⟩)))
        refine WA_block (c := (fcd Try.f7 [1, 1, 1, 1, 1, 0, 1, 0])) ?_
        refine V_loop (c := (fcd Try.f7 [1, 1, 1, 1, 1, 0, 1, 0, 0])) (α := Nat) [6, 9, 10, 79, 80, 115] [] (fun k => [(79, .dat (.i (k : Int)))]) (fun k => []) (fun k => k ≤ m.v.length) (fun k => m.v.length - k) 0 [] ?_ (evs ?_) ?_
        · exact Nat.zero_le _
        · (try with_reducible (repeat' (first | apply And.intro | intro _)))
          all_goals (first | exact True.intro | omega | (first | rfl))
        · intro k hI
          refine WA_seq (x := (fcd Try.f7 [1, 1, 1, 1, 1, 0, 1, 0, 0, 0])) (y := (fcd Try.f7 [1, 1, 1, 1, 1, 0, 1, 0, 0, 1])) ?_
          refine V_regionX Γ Δ [15, 18, 24, 28, 32, 36, 39, 42, 47, 50, 56, 59, 78] [0, 1, 2, 3, 4, 5, 6, 7, 8, 9, 10, 23, 33, 75, 77, 78, 79, 80, 115] (evs ?_)
          all_goals (try with_reducible (repeat' (first | apply And.intro | intro _)))
          all_goals (try (first | with_reducible refine wa_id ?_ | exact True.intro | omega | exact Fn.nilI 4 (sameI_fn ⟨_, _, _⟩ ⟨0, 0, []⟩)))
          refine WA_seq (x := (fcd Try.f7 [1, 1, 1, 1, 1, 0, 1, 0, 0, 1, 0])) (y := (fcd Try.f7 [1, 1, 1, 1, 1, 0, 1, 0, 0, 1, 1])) ?_
          refine V_cond (evs ?_)
          refine ⟨fun hc => ?_, fun hc => ?_⟩
          · refine WA_skip ?_
            refine WA_seq (x := (fcd Try.f7 [1, 1, 1, 1, 1, 0, 1, 0, 0, 1, 1, 0])) (y := (fcd Try.f7 [1, 1, 1, 1, 1, 0, 1, 0, 0, 1, 1, 1])) ?_
            refine WA_block (c := (fcd Try.f7 [1, 1, 1, 1, 1, 0, 1, 0, 0, 1, 1, 0, 0])) ?_
            refine WA_seq (x := (fcd Try.f7 [1, 1, 1, 1, 1, 0, 1, 0, 0, 1, 1, 0, 0, 0])) (y := (fcd Try.f7 [1, 1, 1, 1, 1, 0, 1, 0, 0, 1, 1, 0, 0, 1])) ?_
            refine V_regionX Γ Δ [15, 18, 24, 28, 32, 36, 39, 42, 47, 50, 56, 59, 78] [0, 1, 2, 3, 4, 5, 6, 7, 8, 9, 10, 23, 33, 75, 77, 78, 79, 80, 115] (evs ?_)
            all_goals (try with_reducible (repeat' (first | apply And.intro | intro _)))
            all_goals (try (first | with_reducible refine wa_id ?_ | exact True.intro | omega | exact Fn.nilI 4 (sameI_fn ⟨_, _, _⟩ ⟨0, 0, []⟩)))
            refine WA_seq (x := (fcd Try.f7 [1, 1, 1, 1, 1, 0, 1, 0, 0, 1, 1, 0, 0, 1, 0])) (y := (fcd Try.f7 [1, 1, 1, 1, 1, 0, 1, 0, 0, 1, 1, 0, 0, 1, 1])) ?_
            refine V_draw Γ [15, 18, 24, 28, 32, 36, 39, 42, 47, 50, 56, 59, 78] [0, 1, 2, 3, 4, 5, 6, 7, 8, 9, 10, 23, 33, 75, 77, 78, 79, 80, 115] mixed (by kernel_rfl) (evs ?_)
            all_goals (try with_reducible (repeat' (first | apply And.intro | intro _)))
            all_goals (try (first | with_reducible refine wa_id ?_ | exact True.intro | omega | exact Fn.nilI 4 (sameI_fn ⟨_, _, _⟩ ⟨0, 0, []⟩)))
            refine V_cond (evs ?_)
            refine ⟨fun hc => ?_, fun hc => ?_⟩
            · refine WA_seq (x := (fcd Try.f7 [1, 1, 1, 1, 1, 0, 1, 0, 0, 1, 1, 0, 0, 1, 1, 0, 0])) (y := (fcd Try.f7 [1, 1, 1, 1, 1, 0, 1, 0, 0, 1, 1, 0, 0, 1, 1, 0, 1])) ?_
              refine V_regionX Γ Δ [15, 18, 24, 28, 32, 36, 39, 42, 47, 50, 56, 59, 78] [0, 1, 2, 3, 4, 5, 6, 7, 8, 9, 10, 23, 33, 75, 77, 78, 79, 80, 115] (evs ?_)
              all_goals (try with_reducible (repeat' (first | apply And.intro | intro _)))
              all_goals (try (first | with_reducible refine wa_id ?_ | exact True.intro | omega | exact Fn.nilI 4 (sameI_fn ⟨_, _, _⟩ ⟨0, 0, []⟩)))
              refine V_ret (evs ?_)
              first | exact True.intro | (simp [sameI, ou_0 hc]; done) | (simp [sameI, ou_1 he hc]; done) | (exfalso; simp [L.1, L.2.1, L.2.2.1, L.2.2.2.1, L.2.2.2.2] at hc; done) | exact (ou_2 he hk0 ‹(k : Int) < _› hc).elim
            · refine WA_skip ?_
              refine V_regionX Γ Δ [15, 18, 24, 28, 32, 36, 39, 42, 47, 50, 56, 59, 78] [0, 1, 2, 3, 4, 5, 6, 7, 8, 9, 10, 23, 33, 75, 77, 78, 79, 80, 115] (evs ?_)
              all_goals (try with_reducible (repeat' (first | apply And.intro | intro _)))
              all_goals (try (first | with_reducible refine wa_id ?_ | exact True.intro | omega | exact Fn.nilI 4 (sameI_fn ⟨_, _, _⟩ ⟨0, 0, []⟩)))
              refine V_next [] (k + 1) (evs ?_) ?_ ?_
              all_goals (try with_reducible (repeat' (first | apply And.intro | intro _)))
              all_goals (first | exact True.intro | omega | (first | exact w64l ‹(k : Int) < _› ‹m.v.length ≤ 281474976710656›))
          · refine V_exit (evs ?_)
            refine WA_seq (x := (fcd Try.f7 [1, 1, 1, 1, 1, 1, 0])) (y := (fcd Try.f7 [1, 1, 1, 1, 1, 1, 1])) ?_
            refine V_regionX Γ Δ [15, 18, 24, 28, 32, 36, 39, 42, 47, 50, 56, 59, 78] [0, 1, 2, 3, 4, 5, 6, 7, 8, 9, 10, 23, 33, 75, 77, 78, 79, 80, 115] (evs ?_)
            all_goals (try with_reducible (repeat' (first | apply And.intro | intro _)))
            all_goals (try (first | with_reducible refine wa_id ?_ | exact True.intro | omega | exact Fn.nilI 4 (sameI_fn ⟨_, _, _⟩ ⟨0, 0, []⟩)))
            refine V_ret (evs ?_)
            first | exact True.intro | (simp [sameI, ou_0 hc]; done) | (simp [sameI, ou_1 he hc]; done) | (exfalso; simp [L.1, L.2.1, L.2.2.1, L.2.2.2.1, L.2.2.2.2] at hc; done) | exact (ou_2 he hk0 ‹(k : Int) < _› hc).elim

end Go.S23

