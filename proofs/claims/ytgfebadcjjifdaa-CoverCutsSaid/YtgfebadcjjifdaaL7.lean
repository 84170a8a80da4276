import Derived.Test.YtgfebadcjjifdaaA15
namespace Go.S20
open Go.RowKit Go.Proofs Go.Eng Go.Rect
set_option maxHeartbeats 4000000 in
/-- imageeditor/imageeditorlaw20.CoverCuts -/
theorem l_cuts (p : List Pt) (n : Int) (r : Rc) (hn : 0 ≤ n ∧ n ≤ 65535) : Eng.Fn Try.prog 7 [.sl 2 (p.map ptC), .v (.int .u16 n), rcD r] (.dat (.b true)) := by
  refine Eng.Fn.by (fn := Try.f7) 77 [.tmp 6] Try.func7 rfl Try.ntmps7 rfl (by simp) fun w0 => ?_
  refine WA_seq (x := (fcd Try.f7 [0])) (y := (fcd Try.f7 [1])) ?_
  refine V_regionX Γ Δ [45, 52, 55, 61, 64] [0, 1, 2, 5, 6, 7, 8, 9, 10, 11, 12, 13, 14, 26, 47, 48, 75] (evs ?_)
  all_goals (try with_reducible (repeat' (first | apply And.intro | intro _)))
  all_goals (try (first | with_reducible refine wa_id ?_ | exact True.intro | omega | exact cmask_fn [p] _ ⟨_, _, _, _⟩ | exact cmask_fn [p.take (t + 1), cutB p t] _ ⟨_, _, _, _⟩ | (simp only [List.length_append, List.length_cons, List.length_nil, List.length_take, List.length_drop]; omega)))
  refine WA_seq (x := (fcd Try.f7 [1, 0])) (y := (fcd Try.f7 [1, 1])) ?_
  refine WA_seq (x := (fcd Try.f7 [1, 0, 0])) (y := (fcd Try.f7 [1, 0, 1])) ?_
  refine V_regionX Γ Δ [45, 52, 55, 61, 64] [0, 1, 2, 5, 6, 7, 8, 9, 10, 11, 12, 13, 14, 26, 47, 48, 75] (evs ?_)
  all_goals (try with_reducible (repeat' (first | apply And.intro | intro _)))
  all_goals (try (first | with_reducible refine wa_id ?_ | exact True.intro | exact awake_fn | omega | exact cmask_fn [p] _ ⟨_, _, _, _⟩ | exact cmask_fn [p.take (t + 1), cutB p t] _ ⟨_, _, _, _⟩ | (simp only [List.length_append, List.length_cons, List.length_nil, List.length_take, List.length_drop]; omega)))
  refine V_cond (evs ?_)
  refine ⟨fun hc => ?_, fun hc => ?_⟩
  · refine WA_seq (x := (fcd Try.f7 [1, 0, 1, 0, 0])) (y := (fcd Try.f7 [1, 0, 1, 0, 1])) ?_
    refine V_regionX Γ Δ [45, 52, 55, 61, 64] [0, 1, 2, 5, 6, 7, 8, 9, 10, 11, 12, 13, 14, 26, 47, 48, 75] (evs ?_)
    all_goals (try with_reducible (repeat' (first | apply And.intro | intro _)))
    all_goals (try (first | with_reducible refine wa_id ?_ | exact True.intro | exact awake_fn | omega | exact cmask_fn [p] _ ⟨_, _, _, _⟩ | exact cmask_fn [p.take (t + 1), cutB p t] _ ⟨_, _, _, _⟩ | (simp only [List.length_append, List.length_cons, List.length_nil, List.length_take, List.length_drop]; omega)))
    refine V_ret (evs ?_)
    first | exact True.intro | exact (cutfin mc hc).elim
  · refine WA_skip ?_
    refine WA_seq (x := (fcd Try.f7 [1, 1, 0])) (y := (fcd Try.f7 [1, 1, 1])) ?_
    refine V_regionX Γ Δ [45, 52, 55, 61, 64] [0, 1, 2, 5, 6, 7, 8, 9, 10, 11, 12, 13, 14, 26, 47, 48, 75] (evs ?_)
    have hl : 2 ≤ p.length ∧ p.length ≤ 2000 := by omega
    simp (disch := omega) only [w64]
    simp only [at0E hn.1]
    have hk := at0L (n := n) (show 0 < p.length by omega)
    generalize at0 p.length n = t at hk ⊢
    all_goals (try with_reducible (repeat' (first | apply And.intro | intro _)))
    all_goals (try (first | with_reducible refine wa_id ?_ | exact True.intro | omega | exact cmask_fn [p] _ ⟨_, _, _, _⟩ | exact cmask_fn [p.take (t + 1), cutB p t] _ ⟨_, _, _, _⟩ | (simp only [List.length_append, List.length_cons, List.length_nil, List.length_take, List.length_drop]; omega)))
    refine WA_seq (x := (fcd Try.f7 [1, 1, 1, 0])) (y := (fcd Try.f7 [1, 1, 1, 1])) ?_
    refine V_regionX Γ Δ [45, 52, 55, 61, 64] [0, 1, 2, 5, 6, 7, 8, 9, 10, 11, 12, 13, 14, 26, 47, 48, 75] (evs ?_)
    simp (disch := omega) only [w64]
    simp only [tq1, tq5]
    all_goals (try with_reducible (repeat' (first | apply And.intro | intro _)))
    all_goals (try (first | with_reducible refine wa_id ?_ | exact True.intro | omega | exact cmask_fn [p] _ ⟨_, _, _, _⟩ | exact cmask_fn [p.take (t + 1), cutB p t] _ ⟨_, _, _, _⟩ | (simp only [List.length_append, List.length_cons, List.length_nil, List.length_take, List.length_drop]; omega)))
    refine WA_seq (x := (fcd Try.f7 [1, 1, 1, 1, 0])) (y := (fcd Try.f7 [1, 1, 1, 1, 1])) ?_
    refine V_draw Γ [45, 52, 55, 61, 64] [0, 1, 2, 5, 6, 7, 8, 9, 10, 11, 12, 13, 14, 26, 47, 48, 75] mixed (by kernel_rfl) (evs ?_)
    simp only [tq2, tq5]
    all_goals (try with_reducible (repeat' (first | apply And.intro | intro _)))
    all_goals (try (first | with_reducible refine wa_id ?_ | exact True.intro | omega | exact cmask_fn [p] _ ⟨_, _, _, _⟩ | exact cmask_fn [p.take (t + 1), cutB p t] _ ⟨_, _, _, _⟩ | (simp only [List.length_append, List.length_cons, List.length_nil, List.length_take, List.length_drop]; omega)))
    refine WA_seq (x := (fcd Try.f7 [1, 1, 1, 1, 1, 0])) (y := (fcd Try.f7 [1, 1, 1, 1, 1, 1])) ?_
    refine WA_seq (x := (fcd Try.f7 [1, 1, 1, 1, 1, 0, 0])) (y := (fcd Try.f7 [1, 1, 1, 1, 1, 0, 1])) ?_
    refine V_regionX Γ Δ [45, 52, 55, 61, 64] [0, 1, 2, 5, 6, 7, 8, 9, 10, 11, 12, 13, 14, 26, 47, 48, 75] (evs ?_)
    all_goals (try with_reducible (repeat' (first | apply And.intro | intro _)))
    all_goals (try (first | with_reducible refine wa_id ?_ | exact True.intro | omega | exact cmask_fn [p] _ ⟨_, _, _, _⟩ | exact cmask_fn [p.take (t + 1), cutB p t] _ ⟨_, _, _, _⟩ | (simp only [List.length_append, List.length_cons, List.length_nil, List.length_take, List.length_drop]; omega)))
    refine WA_block (c := (fcd Try.f7 [1, 1, 1, 1, 1, 0, 1, 0])) ?_
    refine V_loop (c := (fcd Try.f7 [1, 1, 1, 1, 1, 0, 1, 0, 0])) (α := Nat) [6, 8, 9, 10, 11, 12, 13, 14, 47, 48, 75] [11, 13, 37, 41, 46, 52, 61, 15500, 15501, 15502, 15503, 16400, 16401, 16402, 16403, 17300, 17301, 17302, 17303] (fun k => [(47, .dat (.i (k : Int))), (8, .dat (.sl 2 ((p.take (t + 1)).map ptC))), (9, .dat (.sl 2 ((cutB p t).map ptC)))]) (fun k => []) (fun k => k ≤ 2) (fun k => 2 - k) 0 [] ?_ (evs ?_) ?_
    · exact Nat.zero_le _
    · (try with_reducible (repeat' (first | apply And.intro | intro _)))
      all_goals (first | exact True.intro | omega | (first | rfl | exact cutB_e | (simp; done)))
    · intro k hI
      refine WA_seq (x := (fcd Try.f7 [1, 1, 1, 1, 1, 0, 1, 0, 0, 0])) (y := (fcd Try.f7 [1, 1, 1, 1, 1, 0, 1, 0, 0, 1])) ?_
      refine V_regionX Γ Δ [45, 52, 55, 61, 64] [0, 1, 2, 5, 6, 7, 8, 9, 10, 11, 12, 13, 14, 26, 47, 48, 75] (evs ?_)
      all_goals (try with_reducible (repeat' (first | apply And.intro | intro _)))
      all_goals (try (first | with_reducible refine wa_id ?_ | exact True.intro | omega | exact cmask_fn [p] _ ⟨_, _, _, _⟩ | exact cmask_fn [p.take (t + 1), cutB p t] _ ⟨_, _, _, _⟩ | (simp only [List.length_append, List.length_cons, List.length_nil, List.length_take, List.length_drop]; omega)))
      refine WA_seq (x := (fcd Try.f7 [1, 1, 1, 1, 1, 0, 1, 0, 0, 1, 0])) (y := (fcd Try.f7 [1, 1, 1, 1, 1, 0, 1, 0, 0, 1, 1])) ?_
      refine V_cond (evs ?_)
      refine ⟨fun hc => ?_, fun hc => ?_⟩
      · refine WA_skip ?_
        refine WA_seq (x := (fcd Try.f7 [1, 1, 1, 1, 1, 0, 1, 0, 0, 1, 1, 0])) (y := (fcd Try.f7 [1, 1, 1, 1, 1, 0, 1, 0, 0, 1, 1, 1])) ?_
        refine WA_block (c := (fcd Try.f7 [1, 1, 1, 1, 1, 0, 1, 0, 0, 1, 1, 0, 0])) ?_
        refine WA_seq (x := (fcd Try.f7 [1, 1, 1, 1, 1, 0, 1, 0, 0, 1, 1, 0, 0, 0])) (y := (fcd Try.f7 [1, 1, 1, 1, 1, 0, 1, 0, 0, 1, 1, 0, 0, 1])) ?_
        refine V_regionX Γ Δ [45, 52, 55, 61, 64] [0, 1, 2, 5, 6, 7, 8, 9, 10, 11, 12, 13, 14, 26, 47, 48, 75] (evs ?_)
        all_goals (try with_reducible (repeat' (first | apply And.intro | intro _)))
        all_goals (try (first | with_reducible refine wa_id ?_ | exact True.intro | omega | exact cmask_fn [p] _ ⟨_, _, _, _⟩ | exact cmask_fn [p.take (t + 1), cutB p t] _ ⟨_, _, _, _⟩ | (simp only [List.length_append, List.length_cons, List.length_nil, List.length_take, List.length_drop]; omega)))
        refine WA_seq (x := (fcd Try.f7 [1, 1, 1, 1, 1, 0, 1, 0, 0, 1, 1, 0, 0, 1, 0])) (y := (fcd Try.f7 [1, 1, 1, 1, 1, 0, 1, 0, 0, 1, 1, 0, 0, 1, 1])) ?_
        refine V_regionX Γ Δ [45, 52, 55, 61, 64] [0, 1, 2, 5, 6, 7, 8, 9, 10, 11, 12, 13, 14, 26, 47, 48, 75] (evs ?_)
        all_goals (try with_reducible (repeat' (first | apply And.intro | intro _)))
        all_goals (try (first | with_reducible refine wa_id ?_ | exact True.intro | exact cmask_fn _ _ ⟨_, _, _, _⟩ | omega | exact cmask_fn [p] _ ⟨_, _, _, _⟩ | exact cmask_fn [p.take (t + 1), cutB p t] _ ⟨_, _, _, _⟩ | (simp only [List.length_append, List.length_cons, List.length_nil, List.length_take, List.length_drop]; omega)))
        refine WA_seq (x := (fcd Try.f7 [1, 1, 1, 1, 1, 0, 1, 0, 0, 1, 1, 0, 0, 1, 1, 0])) (y := (fcd Try.f7 [1, 1, 1, 1, 1, 0, 1, 0, 0, 1, 1, 0, 0, 1, 1, 1])) ?_
        refine V_regionX Γ Δ [45, 52, 55, 61, 64] [0, 1, 2, 5, 6, 7, 8, 9, 10, 11, 12, 13, 14, 26, 47, 48, 75] (evs ?_)
        all_goals (try with_reducible (repeat' (first | apply And.intro | intro _)))
        all_goals (try (first | with_reducible refine wa_id ?_ | exact True.intro | exact cmask_fn _ _ ⟨_, _, _, _⟩ | omega | exact cmask_fn [p] _ ⟨_, _, _, _⟩ | exact cmask_fn [p.take (t + 1), cutB p t] _ ⟨_, _, _, _⟩ | (simp only [List.length_append, List.length_cons, List.length_nil, List.length_take, List.length_drop]; omega)))
        refine WA_seq (x := (fcd Try.f7 [1, 1, 1, 1, 1, 0, 1, 0, 0, 1, 1, 0, 0, 1, 1, 1, 0])) (y := (fcd Try.f7 [1, 1, 1, 1, 1, 0, 1, 0, 0, 1, 1, 0, 0, 1, 1, 1, 1])) ?_
        refine V_regionX Γ Δ [45, 52, 55, 61, 64] [0, 1, 2, 5, 6, 7, 8, 9, 10, 11, 12, 13, 14, 26, 47, 48, 75] (evs ?_)
        have mc := cut_m (rule := (k : Int)) hl.1 hl.2 hk (by omega) r
        all_goals (try with_reducible (repeat' (first | apply And.intro | intro _)))
        all_goals (try (first | with_reducible refine wa_id ?_ | exact True.intro | exact sameM_fn ⟨_, _, _⟩ ⟨_, _, _⟩ | omega | exact cmask_fn [p] _ ⟨_, _, _, _⟩ | exact cmask_fn [p.take (t + 1), cutB p t] _ ⟨_, _, _, _⟩ | (simp only [List.length_append, List.length_cons, List.length_nil, List.length_take, List.length_drop]; omega)))
        refine V_cond (evs ?_)
        refine ⟨fun hc => ?_, fun hc => ?_⟩
        · refine WA_seq (x := (fcd Try.f7 [1, 1, 1, 1, 1, 0, 1, 0, 0, 1, 1, 0, 0, 1, 1, 1, 1, 0, 0])) (y := (fcd Try.f7 [1, 1, 1, 1, 1, 0, 1, 0, 0, 1, 1, 0, 0, 1, 1, 1, 1, 0, 1])) ?_
          refine V_regionX Γ Δ [45, 52, 55, 61, 64] [0, 1, 2, 5, 6, 7, 8, 9, 10, 11, 12, 13, 14, 26, 47, 48, 75] (evs ?_)
          all_goals (try with_reducible (repeat' (first | apply And.intro | intro _)))
          all_goals (try (first | with_reducible refine wa_id ?_ | exact True.intro | omega | exact cmask_fn [p] _ ⟨_, _, _, _⟩ | exact cmask_fn [p.take (t + 1), cutB p t] _ ⟨_, _, _, _⟩ | (simp only [List.length_append, List.length_cons, List.length_nil, List.length_take, List.length_drop]; omega)))
          refine V_ret (evs ?_)
          first | exact True.intro | exact (cutfin mc hc).elim
        · refine WA_skip ?_
          refine V_regionX Γ Δ [45, 52, 55, 61, 64] [0, 1, 2, 5, 6, 7, 8, 9, 10, 11, 12, 13, 14, 26, 47, 48, 75] (evs ?_)
          all_goals (try with_reducible (repeat' (first | apply And.intro | intro _)))
          all_goals (try (first | with_reducible refine wa_id ?_ | exact True.intro | omega | exact cmask_fn [p] _ ⟨_, _, _, _⟩ | exact cmask_fn [p.take (t + 1), cutB p t] _ ⟨_, _, _, _⟩ | (simp only [List.length_append, List.length_cons, List.length_nil, List.length_take, List.length_drop]; omega)))
          refine V_next [] (k + 1) (evs ?_) ?_ ?_
          all_goals (try with_reducible (repeat' (first | apply And.intro | intro _)))
          all_goals (first | exact True.intro | omega | (first | exact w64l (n := 2) (by omega) (by omega)))
      · refine V_exit (evs ?_)
        refine WA_seq (x := (fcd Try.f7 [1, 1, 1, 1, 1, 1, 0])) (y := (fcd Try.f7 [1, 1, 1, 1, 1, 1, 1])) ?_
        refine V_regionX Γ Δ [45, 52, 55, 61, 64] [0, 1, 2, 5, 6, 7, 8, 9, 10, 11, 12, 13, 14, 26, 47, 48, 75] (evs ?_)
        all_goals (try with_reducible (repeat' (first | apply And.intro | intro _)))
        all_goals (try (first | with_reducible refine wa_id ?_ | exact True.intro | omega | exact cmask_fn [p] _ ⟨_, _, _, _⟩ | exact cmask_fn [p.take (t + 1), cutB p t] _ ⟨_, _, _, _⟩ | (simp only [List.length_append, List.length_cons, List.length_nil, List.length_take, List.length_drop]; omega)))
        refine V_ret (evs ?_)
        first | exact True.intro | exact (cutfin mc hc).elim

end Go.S20

