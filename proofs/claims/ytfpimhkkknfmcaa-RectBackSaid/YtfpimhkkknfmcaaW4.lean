import Derived.Test.YtfpimhkkknfmcaaW2
set_option linter.unusedSimpArgs false
set_option linter.unusedVariables false
namespace Go.Rect
open Go.RowKit Go.Proofs Go.Eng
set_option maxRecDepth 100000 in
/-- imageeditor/rect.Minus -/
theorem minus_fn (a b : Rc) : Eng.Fn Try.prog 32 [rcD a, rcD b] (.own 23 4 ((minusL a b).map rcC)) := by
  refine Eng.Fn.by (fn := Try.f32) 99 [.tmp 4] Try.func32 rfl Try.ntmps32 rfl (by simp) fun w0 => ?_
  refine WA_seq (x := (fcd Try.f32 [0])) (y := (fcd Try.f32 [1])) ?_
  refine V_regionX Γ Δ [] [0, 1, 2, 3, 4, 5, 6, 7, 9, 11, 16, 86, 87, 88, 92] (evs ?_)
  all_goals (try with_reducible (repeat' (first | apply And.intro | intro _)))
  all_goals (try (first | with_reducible refine wa_id ?_ | exact True.intro | omega | (have := pl_len (partsL a (meetR a b)) k; omega)))
  refine WA_seq (x := (fcd Try.f32 [1, 0])) (y := (fcd Try.f32 [1, 1])) ?_
  refine WA_seq (x := (fcd Try.f32 [1, 0, 0])) (y := (fcd Try.f32 [1, 0, 1])) ?_
  refine V_regionX Γ Δ [] [0, 1, 2, 3, 4, 5, 6, 7, 9, 11, 16, 86, 87, 88, 92] (evs ?_)
  all_goals (try with_reducible (repeat' (first | apply And.intro | intro _)))
  all_goals (try (first | with_reducible refine wa_id ?_ | exact True.intro | exact empty_fn _ | omega | (have := pl_len (partsL a (meetR a b)) k; omega)))
  refine V_cond (evs ?_)
  refine ⟨fun hc => ?_, fun hc => ?_⟩
  · refine WA_seq (x := (fcd Try.f32 [1, 0, 1, 0, 0])) (y := (fcd Try.f32 [1, 0, 1, 0, 1])) ?_
    refine V_regionX Γ Δ [] [0, 1, 2, 3, 4, 5, 6, 7, 9, 11, 16, 86, 87, 88, 92] (evs ?_)
    all_goals (try with_reducible (repeat' (first | apply And.intro | intro _)))
    all_goals (try (first | with_reducible refine wa_id ?_ | exact True.intro | omega | (have := pl_len (partsL a (meetR a b)) k; omega)))
    refine V_ret (evs ?_)
    first | exact mk1 hc | exact mk2 ‹_› hc | exact st7 ‹_› ‹_› hI hc
  · refine WA_skip ?_
    refine WA_seq (x := (fcd Try.f32 [1, 1, 0])) (y := (fcd Try.f32 [1, 1, 1])) ?_
    refine V_regionX Γ Δ [] [0, 1, 2, 3, 4, 5, 6, 7, 9, 11, 16, 86, 87, 88, 92] (evs ?_)
    all_goals (try with_reducible (repeat' (first | apply And.intro | intro _)))
    all_goals (try (first | with_reducible refine wa_id ?_ | exact True.intro | exact meet_fn _ _ | omega | (have := pl_len (partsL a (meetR a b)) k; omega)))
    refine WA_seq (x := (fcd Try.f32 [1, 1, 1, 0])) (y := (fcd Try.f32 [1, 1, 1, 1])) ?_
    refine WA_seq (x := (fcd Try.f32 [1, 1, 1, 0, 0])) (y := (fcd Try.f32 [1, 1, 1, 0, 1])) ?_
    refine V_regionX Γ Δ [] [0, 1, 2, 3, 4, 5, 6, 7, 9, 11, 16, 86, 87, 88, 92] (evs ?_)
    all_goals (try with_reducible (repeat' (first | apply And.intro | intro _)))
    all_goals (try (first | with_reducible refine wa_id ?_ | exact True.intro | exact empty_fn _ | omega | (have := pl_len (partsL a (meetR a b)) k; omega)))
    refine V_cond (evs ?_)
    refine ⟨fun hc => ?_, fun hc => ?_⟩
    · refine WA_seq (x := (fcd Try.f32 [1, 1, 1, 0, 1, 0, 0])) (y := (fcd Try.f32 [1, 1, 1, 0, 1, 0, 1])) ?_
      refine V_regionX Γ Δ [] [0, 1, 2, 3, 4, 5, 6, 7, 9, 11, 16, 86, 87, 88, 92] (evs ?_)
      all_goals (try with_reducible (repeat' (first | apply And.intro | intro _)))
      all_goals (try (first | with_reducible refine wa_id ?_ | exact True.intro | omega | (have := pl_len (partsL a (meetR a b)) k; omega)))
      refine V_ret (evs ?_)
      first | exact mk1 hc | exact mk2 ‹_› hc | exact st7 ‹_› ‹_› hI hc
    · refine WA_skip ?_
      refine WA_seq (x := (fcd Try.f32 [1, 1, 1, 1, 0])) (y := (fcd Try.f32 [1, 1, 1, 1, 1])) ?_
      refine V_regionX Γ Δ [] [0, 1, 2, 3, 4, 5, 6, 7, 9, 11, 16, 86, 87, 88, 92] (evs ?_)
      all_goals (try with_reducible (repeat' (first | apply And.intro | intro _)))
      all_goals (try (first | with_reducible refine wa_id ?_ | exact True.intro | omega | (have := pl_len (partsL a (meetR a b)) k; omega)))
      have e1 := empty_spec.1 ‹emptyB a = false›
      have e2 := empty_spec.1 hc
      simp (disch := omega) only [w64]
      refine WA_seq (x := (fcd Try.f32 [1, 1, 1, 1, 1, 0])) (y := (fcd Try.f32 [1, 1, 1, 1, 1, 1])) ?_
      refine V_regionX Γ Δ [] [0, 1, 2, 3, 4, 5, 6, 7, 9, 11, 16, 86, 87, 88, 92] (evs ?_)
      all_goals (try with_reducible (repeat' (first | apply And.intro | intro _)))
      all_goals (try (first | with_reducible refine wa_id ?_ | exact True.intro | omega | (have := pl_len (partsL a (meetR a b)) k; omega)))
      refine WA_seq (x := (fcd Try.f32 [1, 1, 1, 1, 1, 1, 0])) (y := (fcd Try.f32 [1, 1, 1, 1, 1, 1, 1])) ?_
      refine WA_seq (x := (fcd Try.f32 [1, 1, 1, 1, 1, 1, 0, 0])) (y := (fcd Try.f32 [1, 1, 1, 1, 1, 1, 0, 1])) ?_
      refine V_regionX Γ Δ [] [0, 1, 2, 3, 4, 5, 6, 7, 9, 11, 16, 86, 87, 88, 92] (evs ?_)
      all_goals (try with_reducible (repeat' (first | apply And.intro | intro _)))
      all_goals (try (first | with_reducible refine wa_id ?_ | exact True.intro | omega | (have := pl_len (partsL a (meetR a b)) k; omega)))
      refine WA_block (c := (fcd Try.f32 [1, 1, 1, 1, 1, 1, 0, 1, 0])) ?_
      refine V_loop (c := (fcd Try.f32 [1, 1, 1, 1, 1, 1, 0, 1, 0, 0])) (α := Nat) [7, 9, 87, 88, 92] [9, 95, 96, 19100, 19101, 19102, 19103] (fun k => [(87, .dat (.i (k : Int))), (7, .vw 20000 0 (pl (partsL a (meetR a b)) k).length 4)]) (fun k => [(20000, some (true, .arr 23 4 ((pl (partsL a (meetR a b)) k).map rcC)))]) (fun k => k ≤ 4) (fun k => 4 - k) 0 [(20000, none)] ?_ (evs ?_) ?_
      · simp
      · (try with_reducible (repeat' (first | apply And.intro | intro _)))
        all_goals (first | exact True.intro | omega | (rfl))
      · intro k hI
        refine WA_seq (x := (fcd Try.f32 [1, 1, 1, 1, 1, 1, 0, 1, 0, 0, 0])) (y := (fcd Try.f32 [1, 1, 1, 1, 1, 1, 0, 1, 0, 0, 1])) ?_
        refine V_regionX Γ Δ [] [0, 1, 2, 3, 4, 5, 6, 7, 9, 11, 16, 86, 87, 88, 92] (evs ?_)
        all_goals (try with_reducible (repeat' (first | apply And.intro | intro _)))
        all_goals (try (first | with_reducible refine wa_id ?_ | exact True.intro | omega | (have := pl_len (partsL a (meetR a b)) k; omega)))
        refine WA_seq (x := (fcd Try.f32 [1, 1, 1, 1, 1, 1, 0, 1, 0, 0, 1, 0])) (y := (fcd Try.f32 [1, 1, 1, 1, 1, 1, 0, 1, 0, 0, 1, 1])) ?_
        refine V_cond (evs ?_)
        refine ⟨fun hc => ?_, fun hc => ?_⟩
        · refine WA_skip ?_
          refine WA_seq (x := (fcd Try.f32 [1, 1, 1, 1, 1, 1, 0, 1, 0, 0, 1, 1, 0])) (y := (fcd Try.f32 [1, 1, 1, 1, 1, 1, 0, 1, 0, 0, 1, 1, 1])) ?_
          refine WA_block (c := (fcd Try.f32 [1, 1, 1, 1, 1, 1, 0, 1, 0, 0, 1, 1, 0, 0])) ?_
          refine WA_seq (x := (fcd Try.f32 [1, 1, 1, 1, 1, 1, 0, 1, 0, 0, 1, 1, 0, 0, 0])) (y := (fcd Try.f32 [1, 1, 1, 1, 1, 1, 0, 1, 0, 0, 1, 1, 0, 0, 1])) ?_
          refine V_regionX Γ Δ [] [0, 1, 2, 3, 4, 5, 6, 7, 9, 11, 16, 86, 87, 88, 92] (evs ?_)
          simp only [nth0, nth1, nth2, nth3]
          all_goals (try with_reducible (repeat' (first | apply And.intro | intro _)))
          all_goals (try (first | with_reducible refine wa_id ?_ | exact True.intro | omega | (have := pl_len (partsL a (meetR a b)) k; omega)))
          refine WA_seq (x := (fcd Try.f32 [1, 1, 1, 1, 1, 1, 0, 1, 0, 0, 1, 1, 0, 0, 1, 0])) (y := (fcd Try.f32 [1, 1, 1, 1, 1, 1, 0, 1, 0, 0, 1, 1, 0, 0, 1, 1])) ?_
          refine V_regionX Γ Δ [] [0, 1, 2, 3, 4, 5, 6, 7, 9, 11, 16, 86, 87, 88, 92] (evs ?_)
          all_goals (try with_reducible (repeat' (first | apply And.intro | intro _)))
          all_goals (try (first | with_reducible refine wa_id ?_ | exact True.intro | exact empty_fn _ | omega | (have := pl_len (partsL a (meetR a b)) k; omega)))
          refine V_cond (evs ?_)
          refine ⟨fun hc => ?_, fun hc => ?_⟩
          · refine V_regionX Γ Δ [] [0, 1, 2, 3, 4, 5, 6, 7, 9, 11, 16, 86, 87, 88, 92] (evs ?_)
            all_goals (try with_reducible (repeat' (first | apply And.intro | intro _)))
            all_goals (try (first | with_reducible refine wa_id ?_ | exact True.intro | omega | (have := pl_len (partsL a (meetR a b)) k; omega)))
            refine V_regionX Γ Δ [] [0, 1, 2, 3, 4, 5, 6, 7, 9, 11, 16, 86, 87, 88, 92] (evs ?_)
            all_goals (try with_reducible (repeat' (first | apply And.intro | intro _)))
            all_goals (try (first | with_reducible refine wa_id ?_ | exact True.intro | omega | (have := pl_len (partsL a (meetR a b)) k; omega)))
            refine V_next [(20000, some 96)] (k + 1) (evs ?_) ?_ ?_
            all_goals (try with_reducible (repeat' (first | apply And.intro | intro _)))
            all_goals (first | exact True.intro | omega | (first | exact w4 (by omega) | exact st3 rfl ‹_› hc | exact st4 rfl ‹_› hc | exact st5 rfl ‹_› hc | exact st6 rfl ‹_› hc))
          · refine WA_skip ?_
            refine V_regionX Γ Δ [] [0, 1, 2, 3, 4, 5, 6, 7, 9, 11, 16, 86, 87, 88, 92] (evs ?_)
            all_goals (try with_reducible (repeat' (first | apply And.intro | intro _)))
            all_goals (try (first | with_reducible refine wa_id ?_ | exact True.intro | omega | (have := pl_len (partsL a (meetR a b)) k; omega)))
            refine V_next [] (k + 1) (evs ?_) ?_ ?_
            all_goals (try with_reducible (repeat' (first | apply And.intro | intro _)))
            all_goals (first | exact True.intro | omega | (first | exact w4 (by omega) | exact st3 rfl ‹_› hc | exact st4 rfl ‹_› hc | exact st5 rfl ‹_› hc | exact st6 rfl ‹_› hc))
        · refine V_exit (evs ?_)
          refine WA_seq (x := (fcd Try.f32 [1, 1, 1, 1, 1, 1, 1, 0])) (y := (fcd Try.f32 [1, 1, 1, 1, 1, 1, 1, 1])) ?_
          refine V_regionX Γ Δ [] [0, 1, 2, 3, 4, 5, 6, 7, 9, 11, 16, 86, 87, 88, 92] (evs ?_)
          all_goals (try with_reducible (repeat' (first | apply And.intro | intro _)))
          all_goals (try (first | with_reducible refine wa_id ?_ | exact True.intro | omega | (have := pl_len (partsL a (meetR a b)) k; omega)))
          refine V_ret (evs ?_)
          first | exact mk1 hc | exact mk2 ‹_› hc | exact st7 ‹_› ‹_› hI hc

set_option maxRecDepth 100000 in
/-- imageeditor/imageeditorref02.Minus -/
theorem rminus_fn (a b : Rc) : Eng.Fn Try.prog 33 [rcD a, rcD b] (.own 23 4 ((minusL a b).map rcC)) := by
  refine Eng.Fn.by (fn := Try.f33) 91 [.tmp 4] Try.func33 rfl Try.ntmps33 rfl (by simp) fun w0 => ?_
  refine WA_seq (x := (fcd Try.f33 [0])) (y := (fcd Try.f33 [1])) ?_
  refine V_regionX Γ Δ [] [0, 1, 2, 3, 4, 5, 6, 7, 8, 9, 10, 11, 12, 13, 14, 15, 16, 18, 23, 74, 82] (evs ?_)
  all_goals (try with_reducible (repeat' (first | apply And.intro | intro _)))
  all_goals (try (first | with_reducible refine wa_id ?_ | exact True.intro | omega | (have := pl_len (partsO a (meetR a b)) k; omega)))
  refine WA_seq (x := (fcd Try.f33 [1, 0])) (y := (fcd Try.f33 [1, 1])) ?_
  refine WA_seq (x := (fcd Try.f33 [1, 0, 0])) (y := (fcd Try.f33 [1, 0, 1])) ?_
  refine V_regionX Γ Δ [] [0, 1, 2, 3, 4, 5, 6, 7, 8, 9, 10, 11, 12, 13, 14, 15, 16, 18, 23, 74, 82] (evs ?_)
  all_goals (try with_reducible (repeat' (first | apply And.intro | intro _)))
  all_goals (try (first | with_reducible refine wa_id ?_ | exact True.intro | exact rempty_fn _ | omega | (have := pl_len (partsO a (meetR a b)) k; omega)))
  refine V_cond (evs ?_)
  refine ⟨fun hc => ?_, fun hc => ?_⟩
  · refine WA_seq (x := (fcd Try.f33 [1, 0, 1, 0, 0])) (y := (fcd Try.f33 [1, 0, 1, 0, 1])) ?_
    refine V_regionX Γ Δ [] [0, 1, 2, 3, 4, 5, 6, 7, 8, 9, 10, 11, 12, 13, 14, 15, 16, 18, 23, 74, 82] (evs ?_)
    all_goals (try with_reducible (repeat' (first | apply And.intro | intro _)))
    all_goals (try (first | with_reducible refine wa_id ?_ | exact True.intro | omega | (have := pl_len (partsO a (meetR a b)) k; omega)))
    refine V_ret (evs ?_)
    first | exact mk1 hc | exact mk2 ‹_› hc | exact st8 ‹_› ‹_› hI hc
  · refine WA_skip ?_
    refine WA_seq (x := (fcd Try.f33 [1, 1, 0])) (y := (fcd Try.f33 [1, 1, 1])) ?_
    refine V_regionX Γ Δ [] [0, 1, 2, 3, 4, 5, 6, 7, 8, 9, 10, 11, 12, 13, 14, 15, 16, 18, 23, 74, 82] (evs ?_)
    all_goals (try with_reducible (repeat' (first | apply And.intro | intro _)))
    all_goals (try (first | with_reducible refine wa_id ?_ | exact True.intro | exact rmeet_fn _ _ | omega | (have := pl_len (partsO a (meetR a b)) k; omega)))
    refine WA_seq (x := (fcd Try.f33 [1, 1, 1, 0])) (y := (fcd Try.f33 [1, 1, 1, 1])) ?_
    refine WA_seq (x := (fcd Try.f33 [1, 1, 1, 0, 0])) (y := (fcd Try.f33 [1, 1, 1, 0, 1])) ?_
    refine V_regionX Γ Δ [] [0, 1, 2, 3, 4, 5, 6, 7, 8, 9, 10, 11, 12, 13, 14, 15, 16, 18, 23, 74, 82] (evs ?_)
    all_goals (try with_reducible (repeat' (first | apply And.intro | intro _)))
    all_goals (try (first | with_reducible refine wa_id ?_ | exact True.intro | exact rempty_fn _ | omega | (have := pl_len (partsO a (meetR a b)) k; omega)))
    refine V_cond (evs ?_)
    refine ⟨fun hc => ?_, fun hc => ?_⟩
    · refine WA_seq (x := (fcd Try.f33 [1, 1, 1, 0, 1, 0, 0])) (y := (fcd Try.f33 [1, 1, 1, 0, 1, 0, 1])) ?_
      refine V_regionX Γ Δ [] [0, 1, 2, 3, 4, 5, 6, 7, 8, 9, 10, 11, 12, 13, 14, 15, 16, 18, 23, 74, 82] (evs ?_)
      all_goals (try with_reducible (repeat' (first | apply And.intro | intro _)))
      all_goals (try (first | with_reducible refine wa_id ?_ | exact True.intro | omega | (have := pl_len (partsO a (meetR a b)) k; omega)))
      refine V_ret (evs ?_)
      first | exact mk1 hc | exact mk2 ‹_› hc | exact st8 ‹_› ‹_› hI hc
    · refine WA_skip ?_
      refine WA_seq (x := (fcd Try.f33 [1, 1, 1, 1, 0])) (y := (fcd Try.f33 [1, 1, 1, 1, 1])) ?_
      refine V_regionX Γ Δ [] [0, 1, 2, 3, 4, 5, 6, 7, 8, 9, 10, 11, 12, 13, 14, 15, 16, 18, 23, 74, 82] (evs ?_)
      all_goals (try with_reducible (repeat' (first | apply And.intro | intro _)))
      all_goals (try (first | with_reducible refine wa_id ?_ | exact True.intro | exact rspan_fn _ _ | omega | (have := pl_len (partsO a (meetR a b)) k; omega)))
      refine WA_seq (x := (fcd Try.f33 [1, 1, 1, 1, 1, 0])) (y := (fcd Try.f33 [1, 1, 1, 1, 1, 1])) ?_
      refine V_regionX Γ Δ [] [0, 1, 2, 3, 4, 5, 6, 7, 8, 9, 10, 11, 12, 13, 14, 15, 16, 18, 23, 74, 82] (evs ?_)
      all_goals (try with_reducible (repeat' (first | apply And.intro | intro _)))
      all_goals (try (first | with_reducible refine wa_id ?_ | exact True.intro | exact rspan_fn _ _ | omega | (have := pl_len (partsO a (meetR a b)) k; omega)))
      refine WA_seq (x := (fcd Try.f33 [1, 1, 1, 1, 1, 1, 0])) (y := (fcd Try.f33 [1, 1, 1, 1, 1, 1, 1])) ?_
      refine V_regionX Γ Δ [] [0, 1, 2, 3, 4, 5, 6, 7, 8, 9, 10, 11, 12, 13, 14, 15, 16, 18, 23, 74, 82] (evs ?_)
      all_goals (try with_reducible (repeat' (first | apply And.intro | intro _)))
      all_goals (try (first | with_reducible refine wa_id ?_ | exact True.intro | exact rspan_fn _ _ | omega | (have := pl_len (partsO a (meetR a b)) k; omega)))
      refine WA_seq (x := (fcd Try.f33 [1, 1, 1, 1, 1, 1, 1, 0])) (y := (fcd Try.f33 [1, 1, 1, 1, 1, 1, 1, 1])) ?_
      refine V_regionX Γ Δ [] [0, 1, 2, 3, 4, 5, 6, 7, 8, 9, 10, 11, 12, 13, 14, 15, 16, 18, 23, 74, 82] (evs ?_)
      all_goals (try with_reducible (repeat' (first | apply And.intro | intro _)))
      all_goals (try (first | with_reducible refine wa_id ?_ | exact True.intro | exact rspan_fn _ _ | omega | (have := pl_len (partsO a (meetR a b)) k; omega)))
      refine WA_seq (x := (fcd Try.f33 [1, 1, 1, 1, 1, 1, 1, 1, 0])) (y := (fcd Try.f33 [1, 1, 1, 1, 1, 1, 1, 1, 1])) ?_
      refine V_regionX Γ Δ [] [0, 1, 2, 3, 4, 5, 6, 7, 8, 9, 10, 11, 12, 13, 14, 15, 16, 18, 23, 74, 82] (evs ?_)
      have e1 := empty_spec.1 ‹emptyB a = false›
      have e2 := empty_spec.1 hc
      obtain ⟨q1, q2, q3, q4⟩ := sp_ne ‹emptyB a = false›
      obtain ⟨q5, q6, q7, q8⟩ := sp_ne hc
      simp only [q1, q2, q3, q4, q5, q6, q7, q8]
      simp (disch := omega) only [w64]
      simp only [Int.sub_add_cancel]
      all_goals (try with_reducible (repeat' (first | apply And.intro | intro _)))
      all_goals (try (first | with_reducible refine wa_id ?_ | exact True.intro | exact of_fn _ _ _ _ (by omega) (by omega) (by omega) (by omega) | omega | (have := pl_len (partsO a (meetR a b)) k; omega)))
      refine WA_seq (x := (fcd Try.f33 [1, 1, 1, 1, 1, 1, 1, 1, 1, 0])) (y := (fcd Try.f33 [1, 1, 1, 1, 1, 1, 1, 1, 1, 1])) ?_
      refine V_regionX Γ Δ [] [0, 1, 2, 3, 4, 5, 6, 7, 8, 9, 10, 11, 12, 13, 14, 15, 16, 18, 23, 74, 82] (evs ?_)
      all_goals (try with_reducible (repeat' (first | apply And.intro | intro _)))
      all_goals (try (first | with_reducible refine wa_id ?_ | exact True.intro | omega | (have := pl_len (partsO a (meetR a b)) k; omega)))
      refine WA_seq (x := (fcd Try.f33 [1, 1, 1, 1, 1, 1, 1, 1, 1, 1, 0])) (y := (fcd Try.f33 [1, 1, 1, 1, 1, 1, 1, 1, 1, 1, 1])) ?_
      refine WA_seq (x := (fcd Try.f33 [1, 1, 1, 1, 1, 1, 1, 1, 1, 1, 0, 0])) (y := (fcd Try.f33 [1, 1, 1, 1, 1, 1, 1, 1, 1, 1, 0, 1])) ?_
      refine V_regionX Γ Δ [] [0, 1, 2, 3, 4, 5, 6, 7, 8, 9, 10, 11, 12, 13, 14, 15, 16, 18, 23, 74, 82] (evs ?_)
      all_goals (try with_reducible (repeat' (first | apply And.intro | intro _)))
      all_goals (try (first | with_reducible refine wa_id ?_ | exact True.intro | omega | (have := pl_len (partsO a (meetR a b)) k; omega)))
      refine WA_block (c := (fcd Try.f33 [1, 1, 1, 1, 1, 1, 1, 1, 1, 1, 0, 1, 0])) ?_
      refine V_loop (c := (fcd Try.f33 [1, 1, 1, 1, 1, 1, 1, 1, 1, 1, 0, 1, 0, 0])) (α := Nat) [15, 16, 74, 82] [88, 89, 18100, 18101, 18102, 18103] (fun k => [(16, .dat (.i (k : Int))), (15, .vw 20000 0 (pl (partsO a (meetR a b)) k).length 4)]) (fun k => [(20000, some (true, .arr 23 4 ((pl (partsO a (meetR a b)) k).map rcC)))]) (fun k => k ≤ 4) (fun k => 4 - k) 0 [(20000, none)] ?_ (evs ?_) ?_
      · simp
      · (try with_reducible (repeat' (first | apply And.intro | intro _)))
        all_goals (first | exact True.intro | omega | (rfl))
      · intro k hI
        refine WA_seq (x := (fcd Try.f33 [1, 1, 1, 1, 1, 1, 1, 1, 1, 1, 0, 1, 0, 0, 0])) (y := (fcd Try.f33 [1, 1, 1, 1, 1, 1, 1, 1, 1, 1, 0, 1, 0, 0, 1])) ?_
        refine WA_seq (x := (fcd Try.f33 [1, 1, 1, 1, 1, 1, 1, 1, 1, 1, 0, 1, 0, 0, 0, 0])) (y := (fcd Try.f33 [1, 1, 1, 1, 1, 1, 1, 1, 1, 1, 0, 1, 0, 0, 0, 1])) ?_
        refine V_regionX Γ Δ [] [0, 1, 2, 3, 4, 5, 6, 7, 8, 9, 10, 11, 12, 13, 14, 15, 16, 18, 23, 74, 82] (evs ?_)
        all_goals (try with_reducible (repeat' (first | apply And.intro | intro _)))
        all_goals (try (first | with_reducible refine wa_id ?_ | exact True.intro | omega | (have := pl_len (partsO a (meetR a b)) k; omega)))
        refine V_cond (evs ?_)
        refine ⟨fun hc => ?_, fun hc => ?_⟩
        · refine WA_skip ?_
          refine WA_seq (x := (fcd Try.f33 [1, 1, 1, 1, 1, 1, 1, 1, 1, 1, 0, 1, 0, 0, 1, 0])) (y := (fcd Try.f33 [1, 1, 1, 1, 1, 1, 1, 1, 1, 1, 0, 1, 0, 0, 1, 1])) ?_
          refine WA_block (c := (fcd Try.f33 [1, 1, 1, 1, 1, 1, 1, 1, 1, 1, 0, 1, 0, 0, 1, 0, 0])) ?_
          refine WA_seq (x := (fcd Try.f33 [1, 1, 1, 1, 1, 1, 1, 1, 1, 1, 0, 1, 0, 0, 1, 0, 0, 0])) (y := (fcd Try.f33 [1, 1, 1, 1, 1, 1, 1, 1, 1, 1, 0, 1, 0, 0, 1, 0, 0, 1])) ?_
          refine V_regionX Γ Δ [] [0, 1, 2, 3, 4, 5, 6, 7, 8, 9, 10, 11, 12, 13, 14, 15, 16, 18, 23, 74, 82] (evs ?_)
          all_goals (try with_reducible (repeat' (first | apply And.intro | intro _)))
          all_goals (try (first | with_reducible refine wa_id ?_ | exact True.intro | exact rempty_fn _ | omega | (have := pl_len (partsO a (meetR a b)) k; omega)))
          refine V_cond (evs ?_)
          refine ⟨fun hc => ?_, fun hc => ?_⟩
          · refine V_regionX Γ Δ [] [0, 1, 2, 3, 4, 5, 6, 7, 8, 9, 10, 11, 12, 13, 14, 15, 16, 18, 23, 74, 82] (evs ?_)
            all_goals (try with_reducible (repeat' (first | apply And.intro | intro _)))
            all_goals (try (first | with_reducible refine wa_id ?_ | exact True.intro | omega | (have := pl_len (partsO a (meetR a b)) k; omega)))
            refine V_regionX Γ Δ [] [0, 1, 2, 3, 4, 5, 6, 7, 8, 9, 10, 11, 12, 13, 14, 15, 16, 18, 23, 74, 82] (evs ?_)
            all_goals (try with_reducible (repeat' (first | apply And.intro | intro _)))
            all_goals (try (first | with_reducible refine wa_id ?_ | exact True.intro | omega | (have := pl_len (partsO a (meetR a b)) k; omega)))
            refine V_next [(20000, some 89)] (k + 1) (evs ?_) ?_ ?_
            all_goals (try with_reducible (repeat' (first | apply And.intro | intro _)))
            all_goals (first | exact True.intro | omega | (first | exact w4 (by omega) | exact st3 rfl ‹_› hc | exact st4 rfl ‹_› hc | exact st5 rfl ‹_› hc | exact st6 rfl ‹_› hc))
          · refine WA_skip ?_
            refine V_regionX Γ Δ [] [0, 1, 2, 3, 4, 5, 6, 7, 8, 9, 10, 11, 12, 13, 14, 15, 16, 18, 23, 74, 82] (evs ?_)
            all_goals (try with_reducible (repeat' (first | apply And.intro | intro _)))
            all_goals (try (first | with_reducible refine wa_id ?_ | exact True.intro | omega | (have := pl_len (partsO a (meetR a b)) k; omega)))
            refine V_next [] (k + 1) (evs ?_) ?_ ?_
            all_goals (try with_reducible (repeat' (first | apply And.intro | intro _)))
            all_goals (first | exact True.intro | omega | (first | exact w4 (by omega) | exact st3 rfl ‹_› hc | exact st4 rfl ‹_› hc | exact st5 rfl ‹_› hc | exact st6 rfl ‹_› hc))
        · refine V_exit (evs ?_)
          refine WA_seq (x := (fcd Try.f33 [1, 1, 1, 1, 1, 1, 1, 1, 1, 1, 1, 0])) (y := (fcd Try.f33 [1, 1, 1, 1, 1, 1, 1, 1, 1, 1, 1, 1])) ?_
          refine V_regionX Γ Δ [] [0, 1, 2, 3, 4, 5, 6, 7, 8, 9, 10, 11, 12, 13, 14, 15, 16, 18, 23, 74, 82] (evs ?_)
          all_goals (try with_reducible (repeat' (first | apply And.intro | intro _)))
          all_goals (try (first | with_reducible refine wa_id ?_ | exact True.intro | omega | (have := pl_len (partsO a (meetR a b)) k; omega)))
          refine V_ret (evs ?_)
          first | exact mk1 hc | exact mk2 ‹_› hc | exact st8 ‹_› ‹_› hI hc

end Go.Rect

