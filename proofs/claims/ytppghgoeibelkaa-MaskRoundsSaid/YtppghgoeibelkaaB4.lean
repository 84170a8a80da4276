import Derived.Test.YtppghgoeibelkaaB3
import Derived.Test.YtppghgoeibelkaaA1
set_option linter.unusedSimpArgs false
set_option linter.unusedVariables false
namespace Go.S23
open Go.RowKit Go.Proofs Go.Eng Go.Rect
set_option maxHeartbeats 2000000 in
/-- imageeditor/mask.Rect -/
theorem mrect_fn (w h : Int) (r : Rc) : Eng.Fn Try.prog 16 [.i w, .i h, rcD r] (.tup [.agg [.dat (.i (mrectR w h r).w), .dat (.i (mrectR w h r).h), .own 3 1 ((mrectR w h r).v.map iC)], .dat (.i (mrectE w h r))]) := by
  refine Eng.Fn.by (fn := Try.f16) 63 [.cell 6 24, .tmp 7] Try.func16 rfl Try.ntmps16 rfl (by simp) fun w0 => ?_
  refine WA_seq (x := (fcd Try.f16 [0])) (y := (fcd Try.f16 [1])) ?_
  refine V_regionX Γ Δ [] [0, 1, 2, 5, 6, 7, 8, 9, 10, 11, 12, 17, 22, 40, 51] (evs ?_)
  all_goals (try with_reducible (repeat' (first | apply And.intro | intro _)))
  all_goals (try (first | with_reducible refine wa_id ?_ | exact True.intro | omega | exact meet_fn ⟨_, _, _, _⟩ ⟨_, _, _, _⟩))
  refine WA_seq (x := (fcd Try.f16 [1, 0])) (y := (fcd Try.f16 [1, 1])) ?_
  refine WA_seq (x := (fcd Try.f16 [1, 0, 0])) (y := (fcd Try.f16 [1, 0, 1])) ?_
  refine V_regionX Γ Δ [] [0, 1, 2, 5, 6, 7, 8, 9, 10, 11, 12, 17, 22, 40, 51] (evs ?_)
  all_goals (try with_reducible (repeat' (first | apply And.intro | intro _)))
  all_goals (try (first | with_reducible refine wa_id ?_ | exact True.intro | exact msized_fn _ _ | omega | exact meet_fn ⟨_, _, _, _⟩ ⟨_, _, _, _⟩))
  refine WA_seq (x := (fcd Try.f16 [1, 0, 1, 0])) (y := (fcd Try.f16 [1, 0, 1, 1])) ?_
  refine V_regionX Γ Δ [] [0, 1, 2, 5, 6, 7, 8, 9, 10, 11, 12, 17, 22, 40, 51] (evs ?_)
  all_goals (try with_reducible (repeat' (first | apply And.intro | intro _)))
  all_goals (try (first | with_reducible refine wa_id ?_ | exact True.intro | omega | exact meet_fn ⟨_, _, _, _⟩ ⟨_, _, _, _⟩))
  refine V_cond (evs ?_)
  refine ⟨fun hc => ?_, fun hc => ?_⟩
  · refine WA_seq (x := (fcd Try.f16 [1, 0, 1, 1, 0, 0])) (y := (fcd Try.f16 [1, 0, 1, 1, 0, 1])) ?_
    refine V_regionX Γ Δ [] [0, 1, 2, 5, 6, 7, 8, 9, 10, 11, 12, 17, 22, 40, 51] (evs ?_)
    all_goals (try with_reducible (repeat' (first | apply And.intro | intro _)))
    all_goals (try (first | with_reducible refine wa_id ?_ | exact True.intro | omega | exact meet_fn ⟨_, _, _, _⟩ ⟨_, _, _, _⟩))
    refine V_ret (evs ?_)
    first | exact bk0 _ (mr1 hc) | exact bk0 _ (mr2 hs hc) | (rw [rcK_all hs hc]; exact bk _ (mr3 hs hv))
  · refine WA_skip ?_
    refine WA_seq (x := (fcd Try.f16 [1, 1, 0])) (y := (fcd Try.f16 [1, 1, 1])) ?_
    refine WA_seq (x := (fcd Try.f16 [1, 1, 0, 0])) (y := (fcd Try.f16 [1, 1, 0, 1])) ?_
    refine V_regionX Γ Δ [] [0, 1, 2, 5, 6, 7, 8, 9, 10, 11, 12, 17, 22, 40, 51] (evs ?_)
    have hs := sizedE_0 ‹sizedE w h = 0›
    have hz := sz_z hs
    have hb := nn_bd hz
    all_goals (try with_reducible (repeat' (first | apply And.intro | intro _)))
    all_goals (try (first | with_reducible refine wa_id ?_ | exact True.intro | exact valid_fn _ | omega | exact meet_fn ⟨_, _, _, _⟩ ⟨_, _, _, _⟩))
    refine V_cond (evs ?_)
    refine ⟨fun hc => ?_, fun hc => ?_⟩
    · refine WA_seq (x := (fcd Try.f16 [1, 1, 0, 1, 0, 0])) (y := (fcd Try.f16 [1, 1, 0, 1, 0, 1])) ?_
      refine V_regionX Γ Δ [] [0, 1, 2, 5, 6, 7, 8, 9, 10, 11, 12, 17, 22, 40, 51] (evs ?_)
      all_goals (try with_reducible (repeat' (first | apply And.intro | intro _)))
      all_goals (try (first | with_reducible refine wa_id ?_ | exact True.intro | omega | exact meet_fn ⟨_, _, _, _⟩ ⟨_, _, _, _⟩))
      refine V_ret (evs ?_)
      first | exact bk0 _ (mr1 hc) | exact bk0 _ (mr2 hs hc) | (rw [rcK_all hs hc]; exact bk _ (mr3 hs hv))
    · refine WA_skip ?_
      refine WA_seq (x := (fcd Try.f16 [1, 1, 1, 0])) (y := (fcd Try.f16 [1, 1, 1, 1])) ?_
      refine V_regionX Γ Δ [] [0, 1, 2, 5, 6, 7, 8, 9, 10, 11, 12, 17, 22, 40, 51] (evs ?_)
      all_goals (try with_reducible (repeat' (first | apply And.intro | intro _)))
      all_goals (try (first | with_reducible refine wa_id ?_ | exact True.intro | exact blank_fn _ _ hz | omega | exact meet_fn ⟨_, _, _, _⟩ ⟨_, _, _, _⟩))
      refine WA_seq (x := (fcd Try.f16 [1, 1, 1, 1, 0])) (y := (fcd Try.f16 [1, 1, 1, 1, 1])) ?_
      refine V_regionX Γ Δ [] [0, 1, 2, 5, 6, 7, 8, 9, 10, 11, 12, 17, 22, 40, 51] (evs ?_)
      all_goals (try with_reducible (repeat' (first | apply And.intro | intro _)))
      all_goals (try (first | with_reducible refine wa_id ?_ | exact True.intro | exact meet_fn _ _ | omega | exact meet_fn ⟨_, _, _, _⟩ ⟨_, _, _, _⟩))
      refine WA_seq (x := (fcd Try.f16 [1, 1, 1, 1, 1, 0])) (y := (fcd Try.f16 [1, 1, 1, 1, 1, 1])) ?_
      refine WA_seq (x := (fcd Try.f16 [1, 1, 1, 1, 1, 0, 0])) (y := (fcd Try.f16 [1, 1, 1, 1, 1, 0, 1])) ?_
      refine V_regionX Γ Δ [] [0, 1, 2, 5, 6, 7, 8, 9, 10, 11, 12, 17, 22, 40, 51] (evs ?_)
      have hv := ‹validB r = true›
      have hP := meet_bd r ⟨0, 0, w, h⟩
      all_goals (try with_reducible (repeat' (first | apply And.intro | intro _)))
      all_goals (try (first | with_reducible refine wa_id ?_ | exact True.intro | omega | exact meet_fn ⟨_, _, _, _⟩ ⟨_, _, _, _⟩))
      refine WA_block (c := (fcd Try.f16 [1, 1, 1, 1, 1, 0, 1, 0])) ?_
      refine V_loop (c := (fcd Try.f16 [1, 1, 1, 1, 1, 0, 1, 0, 0])) (α := Int) [11, 12, 40, 51] [12600] (fun y => [(11, .dat (.i y))]) (fun y => [(12600, some (true, .arr 3 1 ((rcK w h (meetR r ⟨0, 0, w, h⟩) y (meetR r ⟨0, 0, w, h⟩).x).map iC)))]) (fun y => (meetR r ⟨0, 0, w, h⟩).y ≤ y ∧ y ≤ (meetR r ⟨0, 0, w, h⟩).y + (meetR r ⟨0, 0, w, h⟩).h) (fun y => ((meetR r ⟨0, 0, w, h⟩).y + (meetR r ⟨0, 0, w, h⟩).h - y).toNat) (meetR r ⟨0, 0, w, h⟩).y [] ?_ (evs ?_) ?_
      · omega
      · (try with_reducible (repeat' (first | apply And.intro | intro _)))
        all_goals (first | exact True.intro | omega | (first | (rw [rcK_0]; done) | (rw [← rcK_0]; done) | rfl))
      · intro y hY
        refine WA_seq (x := (fcd Try.f16 [1, 1, 1, 1, 1, 0, 1, 0, 0, 0])) (y := (fcd Try.f16 [1, 1, 1, 1, 1, 0, 1, 0, 0, 1])) ?_
        refine WA_seq (x := (fcd Try.f16 [1, 1, 1, 1, 1, 0, 1, 0, 0, 0, 0])) (y := (fcd Try.f16 [1, 1, 1, 1, 1, 0, 1, 0, 0, 0, 1])) ?_
        refine V_regionX Γ Δ [] [0, 1, 2, 5, 6, 7, 8, 9, 10, 11, 12, 17, 22, 40, 51] (evs ?_)
        simp (maxSteps := 10000000) (disch := omega) only [w64]
        all_goals (try with_reducible (repeat' (first | apply And.intro | intro _)))
        all_goals (try (first | with_reducible refine wa_id ?_ | exact True.intro | omega | exact meet_fn ⟨_, _, _, _⟩ ⟨_, _, _, _⟩))
        refine V_cond (evs ?_)
        refine ⟨fun hc => ?_, fun hc => ?_⟩
        · refine WA_skip ?_
          refine WA_seq (x := (fcd Try.f16 [1, 1, 1, 1, 1, 0, 1, 0, 0, 1, 0])) (y := (fcd Try.f16 [1, 1, 1, 1, 1, 0, 1, 0, 0, 1, 1])) ?_
          refine WA_block (c := (fcd Try.f16 [1, 1, 1, 1, 1, 0, 1, 0, 0, 1, 0, 0])) ?_
          refine WA_seq (x := (fcd Try.f16 [1, 1, 1, 1, 1, 0, 1, 0, 0, 1, 0, 0, 0])) (y := (fcd Try.f16 [1, 1, 1, 1, 1, 0, 1, 0, 0, 1, 0, 0, 1])) ?_
          refine V_regionX Γ Δ [] [0, 1, 2, 5, 6, 7, 8, 9, 10, 11, 12, 17, 22, 40, 51] (evs ?_)
          all_goals (try with_reducible (repeat' (first | apply And.intro | intro _)))
          all_goals (try (first | with_reducible refine wa_id ?_ | exact True.intro | omega | exact meet_fn ⟨_, _, _, _⟩ ⟨_, _, _, _⟩))
          refine WA_block (c := (fcd Try.f16 [1, 1, 1, 1, 1, 0, 1, 0, 0, 1, 0, 0, 1, 0])) ?_
          refine V_loop (c := (fcd Try.f16 [1, 1, 1, 1, 1, 0, 1, 0, 0, 1, 0, 0, 1, 0, 0])) (α := Int) [12, 51] [12600] (fun x => [(12, .dat (.i x))]) (fun x => [(12600, some (true, .arr 3 1 ((rcK w h (meetR r ⟨0, 0, w, h⟩) y x).map iC)))]) (fun x => (meetR r ⟨0, 0, w, h⟩).x ≤ x ∧ x ≤ (meetR r ⟨0, 0, w, h⟩).x + (meetR r ⟨0, 0, w, h⟩).w) (fun x => ((meetR r ⟨0, 0, w, h⟩).x + (meetR r ⟨0, 0, w, h⟩).w - x).toNat) (meetR r ⟨0, 0, w, h⟩).x [] ?_ (evs ?_) ?_
          · omega
          · (try with_reducible (repeat' (first | apply And.intro | intro _)))
            all_goals (first | exact True.intro | omega | (first | rfl))
          · intro x hX
            refine WA_seq (x := (fcd Try.f16 [1, 1, 1, 1, 1, 0, 1, 0, 0, 1, 0, 0, 1, 0, 0, 0])) (y := (fcd Try.f16 [1, 1, 1, 1, 1, 0, 1, 0, 0, 1, 0, 0, 1, 0, 0, 1])) ?_
            refine WA_seq (x := (fcd Try.f16 [1, 1, 1, 1, 1, 0, 1, 0, 0, 1, 0, 0, 1, 0, 0, 0, 0])) (y := (fcd Try.f16 [1, 1, 1, 1, 1, 0, 1, 0, 0, 1, 0, 0, 1, 0, 0, 0, 1])) ?_
            refine V_regionX Γ Δ [] [0, 1, 2, 5, 6, 7, 8, 9, 10, 11, 12, 17, 22, 40, 51] (evs ?_)
            simp (maxSteps := 10000000) (disch := omega) only [w64]
            all_goals (try with_reducible (repeat' (first | apply And.intro | intro _)))
            all_goals (try (first | with_reducible refine wa_id ?_ | exact True.intro | omega | exact meet_fn ⟨_, _, _, _⟩ ⟨_, _, _, _⟩))
            refine V_cond (evs ?_)
            refine ⟨fun hc => ?_, fun hc => ?_⟩
            · refine WA_skip ?_
              refine WA_seq (x := (fcd Try.f16 [1, 1, 1, 1, 1, 0, 1, 0, 0, 1, 0, 0, 1, 0, 0, 1, 0])) (y := (fcd Try.f16 [1, 1, 1, 1, 1, 0, 1, 0, 0, 1, 0, 0, 1, 0, 0, 1, 1])) ?_
              refine WA_block (c := (fcd Try.f16 [1, 1, 1, 1, 1, 0, 1, 0, 0, 1, 0, 0, 1, 0, 0, 1, 0, 0])) ?_
              refine V_regionX Γ Δ [] [0, 1, 2, 5, 6, 7, 8, 9, 10, 11, 12, 17, 22, 40, 51] (evs ?_)
              have hr := rcIx (r := r) hs hY.1 ‹y < _› hX.1 ‹x < _›
              simp only [hr.1, Int.toNat_natCast]
              all_goals (try with_reducible (repeat' (first | apply And.intro | intro _)))
              all_goals (try (first | with_reducible refine wa_id ?_ | exact True.intro | omega | exact meet_fn ⟨_, _, _, _⟩ ⟨_, _, _, _⟩))
              refine V_regionX Γ Δ [] [0, 1, 2, 5, 6, 7, 8, 9, 10, 11, 12, 17, 22, 40, 51] (evs ?_)
              all_goals (try with_reducible (repeat' (first | apply And.intro | intro _)))
              all_goals (try (first | with_reducible refine wa_id ?_ | exact True.intro | omega | exact meet_fn ⟨_, _, _, _⟩ ⟨_, _, _, _⟩))
              refine V_next [] (x + 1) (evs ?_) ?_ ?_
              all_goals (try with_reducible (repeat' (first | apply And.intro | intro _)))
              all_goals (first | exact True.intro | omega | (first | (rw [w64 (by omega) (by omega)]; done) | exact hr.2.2))
            · refine V_exit (evs ?_)
              refine V_regionX Γ Δ [] [0, 1, 2, 5, 6, 7, 8, 9, 10, 11, 12, 17, 22, 40, 51] (evs ?_)
              all_goals (try with_reducible (repeat' (first | apply And.intro | intro _)))
              all_goals (try (first | with_reducible refine wa_id ?_ | exact True.intro | omega | exact meet_fn ⟨_, _, _, _⟩ ⟨_, _, _, _⟩))
              refine V_next [] (y + 1) (evs ?_) ?_ ?_
              all_goals (try with_reducible (repeat' (first | apply And.intro | intro _)))
              all_goals (first | exact True.intro | omega | (first | (rw [w64 (by omega) (by omega)]; done) | (rw [rcK_row hc]; done)))
        · refine V_exit (evs ?_)
          refine WA_seq (x := (fcd Try.f16 [1, 1, 1, 1, 1, 1, 0])) (y := (fcd Try.f16 [1, 1, 1, 1, 1, 1, 1])) ?_
          refine V_regionX Γ Δ [] [0, 1, 2, 5, 6, 7, 8, 9, 10, 11, 12, 17, 22, 40, 51] (evs ?_)
          all_goals (try with_reducible (repeat' (first | apply And.intro | intro _)))
          all_goals (try (first | with_reducible refine wa_id ?_ | exact True.intro | omega | exact meet_fn ⟨_, _, _, _⟩ ⟨_, _, _, _⟩))
          refine V_ret (evs ?_)
          first | exact bk0 _ (mr1 hc) | exact bk0 _ (mr2 hs hc) | (rw [rcK_all hs hc]; exact bk _ (mr3 hs hv))

set_option maxHeartbeats 1000000 in
/-- imageeditor/imageeditorref23.Rect -/
theorem rmrect_fn (w h : Int) (r : Rc) : Eng.Fn Try.prog 17 [.i w, .i h, rcD r] (.tup [.agg [.dat (.i (mrectR w h r).w), .dat (.i (mrectR w h r).h), .own 3 1 ((mrectR w h r).v.map iC)], .dat (.i (mrectE w h r))]) := by
  refine Eng.Fn.by (fn := Try.f17) 46 [.cell 6 24, .tmp 7] Try.func17 rfl Try.ntmps17 rfl (by simp) fun w0 => ?_
  refine WA_seq (x := (fcd Try.f17 [0])) (y := (fcd Try.f17 [1])) ?_
  refine V_regionX Γ Δ [42] [0, 1, 2, 5, 6, 7, 8, 9, 10, 11, 15, 19, 26, 31, 38] (evs ?_)
  all_goals (try with_reducible (repeat' (first | apply And.intro | intro _)))
  all_goals (try (first | with_reducible refine wa_id ?_ | exact True.intro | omega | exact rhas_fn ⟨_, _, _, _⟩ ⟨_, _⟩ | (rw [tab_len]; omega)))
  refine WA_seq (x := (fcd Try.f17 [1, 0])) (y := (fcd Try.f17 [1, 1])) ?_
  refine WA_seq (x := (fcd Try.f17 [1, 0, 0])) (y := (fcd Try.f17 [1, 0, 1])) ?_
  refine V_regionX Γ Δ [42] [0, 1, 2, 5, 6, 7, 8, 9, 10, 11, 15, 19, 26, 31, 38] (evs ?_)
  all_goals (try with_reducible (repeat' (first | apply And.intro | intro _)))
  all_goals (try (first | with_reducible refine wa_id ?_ | exact True.intro | exact rsized_fn _ _ | omega | exact rhas_fn ⟨_, _, _, _⟩ ⟨_, _⟩ | (rw [tab_len]; omega)))
  refine V_cond (evs ?_)
  refine ⟨fun hc => ?_, fun hc => ?_⟩
  · refine WA_seq (x := (fcd Try.f17 [1, 0, 1, 0, 0])) (y := (fcd Try.f17 [1, 0, 1, 0, 1])) ?_
    refine V_regionX Γ Δ [42] [0, 1, 2, 5, 6, 7, 8, 9, 10, 11, 15, 19, 26, 31, 38] (evs ?_)
    all_goals (try with_reducible (repeat' (first | apply And.intro | intro _)))
    all_goals (try (first | with_reducible refine wa_id ?_ | exact True.intro | omega | exact rhas_fn ⟨_, _, _, _⟩ ⟨_, _⟩ | (rw [tab_len]; omega)))
    refine V_ret (evs ?_)
    first | exact bk0 _ (mr1r hc) | exact bk0 _ (mr2 hs hc) | (rw [yall hY hc]; exact bk _ (mr3 hs hv))
  · refine WA_skip ?_
    refine WA_seq (x := (fcd Try.f17 [1, 1, 0])) (y := (fcd Try.f17 [1, 1, 1])) ?_
    refine WA_seq (x := (fcd Try.f17 [1, 1, 0, 0])) (y := (fcd Try.f17 [1, 1, 0, 1])) ?_
    refine V_regionX Γ Δ [42] [0, 1, 2, 5, 6, 7, 8, 9, 10, 11, 15, 19, 26, 31, 38] (evs ?_)
    have hs := sized_T.1 ‹sizedB w h = true›
    have hz := sz_z hs
    have hb := nn_bd hz
    have hs2 := hs
    unfold SzOk at hs2
    all_goals (try with_reducible (repeat' (first | apply And.intro | intro _)))
    all_goals (try (first | with_reducible refine wa_id ?_ | exact True.intro | exact rvalid_fn _ | omega | exact rhas_fn ⟨_, _, _, _⟩ ⟨_, _⟩ | (rw [tab_len]; omega)))
    refine V_cond (evs ?_)
    refine ⟨fun hc => ?_, fun hc => ?_⟩
    · refine WA_seq (x := (fcd Try.f17 [1, 1, 0, 1, 0, 0])) (y := (fcd Try.f17 [1, 1, 0, 1, 0, 1])) ?_
      refine V_regionX Γ Δ [42] [0, 1, 2, 5, 6, 7, 8, 9, 10, 11, 15, 19, 26, 31, 38] (evs ?_)
      all_goals (try with_reducible (repeat' (first | apply And.intro | intro _)))
      all_goals (try (first | with_reducible refine wa_id ?_ | exact True.intro | omega | exact rhas_fn ⟨_, _, _, _⟩ ⟨_, _⟩ | (rw [tab_len]; omega)))
      refine V_ret (evs ?_)
      first | exact bk0 _ (mr1r hc) | exact bk0 _ (mr2 hs hc) | (rw [yall hY hc]; exact bk _ (mr3 hs hv))
    · refine WA_skip ?_
      refine WA_seq (x := (fcd Try.f17 [1, 1, 1, 0])) (y := (fcd Try.f17 [1, 1, 1, 1])) ?_
      refine V_regionX Γ Δ [42] [0, 1, 2, 5, 6, 7, 8, 9, 10, 11, 15, 19, 26, 31, 38] (evs ?_)
      have hv := ‹validB r = true›
      all_goals (try with_reducible (repeat' (first | apply And.intro | intro _)))
      all_goals (try (first | with_reducible refine wa_id ?_ | exact True.intro | omega | exact rhas_fn ⟨_, _, _, _⟩ ⟨_, _⟩ | (rw [tab_len]; omega)))
      refine WA_seq (x := (fcd Try.f17 [1, 1, 1, 1, 0])) (y := (fcd Try.f17 [1, 1, 1, 1, 1])) ?_
      refine WA_seq (x := (fcd Try.f17 [1, 1, 1, 1, 0, 0])) (y := (fcd Try.f17 [1, 1, 1, 1, 0, 1])) ?_
      refine V_regionX Γ Δ [42] [0, 1, 2, 5, 6, 7, 8, 9, 10, 11, 15, 19, 26, 31, 38] (evs ?_)
      all_goals (try with_reducible (repeat' (first | apply And.intro | intro _)))
      all_goals (try (first | with_reducible refine wa_id ?_ | exact True.intro | omega | exact rhas_fn ⟨_, _, _, _⟩ ⟨_, _⟩ | (rw [tab_len]; omega)))
      refine WA_block (c := (fcd Try.f17 [1, 1, 1, 1, 0, 1, 0])) ?_
      refine V_loop (c := (fcd Try.f17 [1, 1, 1, 1, 0, 1, 0, 0])) (α := Nat) [9, 10, 11, 26, 31, 38] [8, 42, 43, 13800, 13801, 13802, 13803] (fun y => [(9, .dat (.i (y : Int)))]) (fun y => [(20000, some (true, .arr 3 1 ((tab (y * w.toNat) (gF w.toNat (rF r))).map iC))), (8, some (true, .box 24 [.dat (.i w), .dat (.i h), .vw 20000 0 (y * w.toNat) 1]))]) (fun y => y ≤ h.toNat) (fun y => h.toNat - y) 0 [(20000, none)] ?_ (evs ?_) ?_
      · exact Nat.zero_le _
      · (try with_reducible (repeat' (first | apply And.intro | intro _)))
        all_goals (first | exact True.intro | omega | (first | rfl | (simp [tab]; done)))
      · intro y hY
        refine WA_seq (x := (fcd Try.f17 [1, 1, 1, 1, 0, 1, 0, 0, 0])) (y := (fcd Try.f17 [1, 1, 1, 1, 0, 1, 0, 0, 1])) ?_
        refine WA_seq (x := (fcd Try.f17 [1, 1, 1, 1, 0, 1, 0, 0, 0, 0])) (y := (fcd Try.f17 [1, 1, 1, 1, 0, 1, 0, 0, 0, 1])) ?_
        refine V_regionX Γ Δ [42] [0, 1, 2, 5, 6, 7, 8, 9, 10, 11, 15, 19, 26, 31, 38] (evs ?_)
        all_goals (try with_reducible (repeat' (first | apply And.intro | intro _)))
        all_goals (try (first | with_reducible refine wa_id ?_ | exact True.intro | omega | exact rhas_fn ⟨_, _, _, _⟩ ⟨_, _⟩ | (rw [tab_len]; omega)))
        refine V_cond (evs ?_)
        refine ⟨fun hc => ?_, fun hc => ?_⟩
        · refine WA_skip ?_
          refine WA_seq (x := (fcd Try.f17 [1, 1, 1, 1, 0, 1, 0, 0, 1, 0])) (y := (fcd Try.f17 [1, 1, 1, 1, 0, 1, 0, 0, 1, 1])) ?_
          refine WA_block (c := (fcd Try.f17 [1, 1, 1, 1, 0, 1, 0, 0, 1, 0, 0])) ?_
          refine WA_seq (x := (fcd Try.f17 [1, 1, 1, 1, 0, 1, 0, 0, 1, 0, 0, 0])) (y := (fcd Try.f17 [1, 1, 1, 1, 0, 1, 0, 0, 1, 0, 0, 1])) ?_
          refine V_regionX Γ Δ [42] [0, 1, 2, 5, 6, 7, 8, 9, 10, 11, 15, 19, 26, 31, 38] (evs ?_)
          all_goals (try with_reducible (repeat' (first | apply And.intro | intro _)))
          all_goals (try (first | with_reducible refine wa_id ?_ | exact True.intro | omega | exact rhas_fn ⟨_, _, _, _⟩ ⟨_, _⟩ | (rw [tab_len]; omega)))
          refine WA_block (c := (fcd Try.f17 [1, 1, 1, 1, 0, 1, 0, 0, 1, 0, 0, 1, 0])) ?_
          refine V_loop (c := (fcd Try.f17 [1, 1, 1, 1, 0, 1, 0, 0, 1, 0, 0, 1, 0, 0])) (α := Nat) [10, 11, 31, 38] [8, 42, 43, 13800, 13801, 13802, 13803, 20000] (fun x => [(10, .dat (.i (x : Int)))]) (fun x => [(20001, some (true, .arr 3 1 ((tab (y * w.toNat + x) (gF w.toNat (rF r))).map iC))), (8, some (true, .box 24 [.dat (.i w), .dat (.i h), .vw 20001 0 (y * w.toNat + x) 1]))]) (fun x => x ≤ w.toNat) (fun x => w.toNat - x) 0 [(20001, some 20000)] ?_ (evs ?_) ?_
          · exact Nat.zero_le _
          · (try with_reducible (repeat' (first | apply And.intro | intro _)))
            all_goals (first | exact True.intro | omega | (first | rfl | (simp [tab]; done)))
          · intro x hX
            refine WA_seq (x := (fcd Try.f17 [1, 1, 1, 1, 0, 1, 0, 0, 1, 0, 0, 1, 0, 0, 0])) (y := (fcd Try.f17 [1, 1, 1, 1, 0, 1, 0, 0, 1, 0, 0, 1, 0, 0, 1])) ?_
            refine WA_seq (x := (fcd Try.f17 [1, 1, 1, 1, 0, 1, 0, 0, 1, 0, 0, 1, 0, 0, 0, 0])) (y := (fcd Try.f17 [1, 1, 1, 1, 0, 1, 0, 0, 1, 0, 0, 1, 0, 0, 0, 1])) ?_
            refine V_regionX Γ Δ [42] [0, 1, 2, 5, 6, 7, 8, 9, 10, 11, 15, 19, 26, 31, 38] (evs ?_)
            all_goals (try with_reducible (repeat' (first | apply And.intro | intro _)))
            all_goals (try (first | with_reducible refine wa_id ?_ | exact True.intro | omega | exact rhas_fn ⟨_, _, _, _⟩ ⟨_, _⟩ | (rw [tab_len]; omega)))
            refine V_cond (evs ?_)
            refine ⟨fun hc => ?_, fun hc => ?_⟩
            · refine WA_skip ?_
              refine WA_seq (x := (fcd Try.f17 [1, 1, 1, 1, 0, 1, 0, 0, 1, 0, 0, 1, 0, 0, 1, 0])) (y := (fcd Try.f17 [1, 1, 1, 1, 0, 1, 0, 0, 1, 0, 0, 1, 0, 0, 1, 1])) ?_
              refine WA_block (c := (fcd Try.f17 [1, 1, 1, 1, 0, 1, 0, 0, 1, 0, 0, 1, 0, 0, 1, 0, 0])) ?_
              refine WA_seq (x := (fcd Try.f17 [1, 1, 1, 1, 0, 1, 0, 0, 1, 0, 0, 1, 0, 0, 1, 0, 0, 0])) (y := (fcd Try.f17 [1, 1, 1, 1, 0, 1, 0, 0, 1, 0, 0, 1, 0, 0, 1, 0, 0, 1])) ?_
              refine V_regionX Γ Δ [42] [0, 1, 2, 5, 6, 7, 8, 9, 10, 11, 15, 19, 26, 31, 38] (evs ?_)
              all_goals (try with_reducible (repeat' (first | apply And.intro | intro _)))
              all_goals (try (first | with_reducible refine wa_id ?_ | exact True.intro | omega | exact rhas_fn ⟨_, _, _, _⟩ ⟨_, _⟩ | (rw [tab_len]; omega)))
              refine V_cut (x := (fcd Try.f17 [1, 1, 1, 1, 0, 1, 0, 0, 1, 0, 0, 1, 0, 0, 1, 0, 0, 1, 0])) (y := (fcd Try.f17 [1, 1, 1, 1, 0, 1, 0, 0, 1, 0, 0, 1, 0, 0, 1, 0, 0, 1, 1])) (α := Unit) [11, 38] [13800, 13801, 13802, 13803] (fun _ => [(11, .dat (.i (rF r (x : Int) (y : Int))))]) (fun _ => []) (fun _ => True) ?_ ?_
              · refine WA_seq (x := (fcd Try.f17 [1, 1, 1, 1, 0, 1, 0, 0, 1, 0, 0, 1, 0, 0, 1, 0, 0, 1, 0, 0])) (y := (fcd Try.f17 [1, 1, 1, 1, 0, 1, 0, 0, 1, 0, 0, 1, 0, 0, 1, 0, 0, 1, 0, 1])) ?_
                refine V_regionX Γ Δ [42] [0, 1, 2, 5, 6, 7, 8, 9, 10, 11, 15, 19, 26, 31, 38] (evs ?_)
                all_goals (try with_reducible (repeat' (first | apply And.intro | intro _)))
                all_goals (try (first | with_reducible refine wa_id ?_ | exact True.intro | exact rhas_fn _ ⟨_, _⟩ | omega | exact rhas_fn ⟨_, _, _, _⟩ ⟨_, _⟩ | (rw [tab_len]; omega)))
                refine V_cond (evs ?_)
                refine ⟨fun hc => ?_, fun hc => ?_⟩
                · refine V_regionX Γ Δ [42] [0, 1, 2, 5, 6, 7, 8, 9, 10, 11, 15, 19, 26, 31, 38] (evs ?_)
                  all_goals (try with_reducible (repeat' (first | apply And.intro | intro _)))
                  all_goals (try (first | with_reducible refine wa_id ?_ | exact True.intro | omega | exact rhas_fn ⟨_, _, _, _⟩ ⟨_, _⟩ | (rw [tab_len]; omega)))
                  refine V_jn [] () (evs ?_) ?_
                  all_goals (try with_reducible (repeat' (first | apply And.intro | intro _)))
                  all_goals (first | exact True.intro | omega | (first | exact rF1 hc | exact rF0 hc))
                · refine WA_skip ?_
                  refine V_jn [] () (evs ?_) ?_
                  all_goals (try with_reducible (repeat' (first | apply And.intro | intro _)))
                  all_goals (first | exact True.intro | omega | (first | exact rF1 hc | exact rF0 hc))
              · intro _ _
                refine V_regionX Γ Δ [42] [0, 1, 2, 5, 6, 7, 8, 9, 10, 11, 15, 19, 26, 31, 38] (evs ?_)
                have hi := yxI hz ‹(y : Int) < _› ‹(x : Int) < _›
                have ha := ap_b hz ‹(y : Int) < _› ‹(x : Int) < _›
                all_goals (try with_reducible (repeat' (first | apply And.intro | intro _)))
                all_goals (try (first | with_reducible refine wa_id ?_ | exact True.intro | omega | exact rhas_fn ⟨_, _, _, _⟩ ⟨_, _⟩ | (rw [tab_len]; omega)))
                refine V_regionX Γ Δ [42] [0, 1, 2, 5, 6, 7, 8, 9, 10, 11, 15, 19, 26, 31, 38] (evs ?_)
                all_goals (try with_reducible (repeat' (first | apply And.intro | intro _)))
                all_goals (try (first | with_reducible refine wa_id ?_ | exact True.intro | omega | exact rhas_fn ⟨_, _, _, _⟩ ⟨_, _⟩ | (rw [tab_len]; omega)))
                refine V_next [(20001, some 43)] (x + 1) (evs ?_) ?_ ?_
                all_goals (try with_reducible (repeat' (first | apply And.intro | intro _)))
                all_goals (first | exact True.intro | omega | (first | exact w64l (n := 256) (by omega) (by omega) | exact tab_app (gF_at (F := rF r) (show x < w.toNat by omega)).symm))
            · refine V_exit (evs ?_)
              refine V_regionX Γ Δ [42] [0, 1, 2, 5, 6, 7, 8, 9, 10, 11, 15, 19, 26, 31, 38] (evs ?_)
              all_goals (try with_reducible (repeat' (first | apply And.intro | intro _)))
              all_goals (try (first | with_reducible refine wa_id ?_ | exact True.intro | omega | exact rhas_fn ⟨_, _, _, _⟩ ⟨_, _⟩ | (rw [tab_len]; omega)))
              refine V_next [(20000, some 20001)] (y + 1) (evs ?_) ?_ ?_
              all_goals (try with_reducible (repeat' (first | apply And.intro | intro _)))
              all_goals (first | exact True.intro | omega | (first | exact w64l (n := 256) (by omega) (by omega) | (rw [row_e (w := w.toNat) (y := y) (x := x) (by omega) (by omega)]; done)))
        · refine V_exit (evs ?_)
          refine WA_seq (x := (fcd Try.f17 [1, 1, 1, 1, 1, 0])) (y := (fcd Try.f17 [1, 1, 1, 1, 1, 1])) ?_
          refine V_regionX Γ Δ [42] [0, 1, 2, 5, 6, 7, 8, 9, 10, 11, 15, 19, 26, 31, 38] (evs ?_)
          all_goals (try with_reducible (repeat' (first | apply And.intro | intro _)))
          all_goals (try (first | with_reducible refine wa_id ?_ | exact True.intro | omega | exact rhas_fn ⟨_, _, _, _⟩ ⟨_, _⟩ | (rw [tab_len]; omega)))
          refine V_ret (evs ?_)
          first | exact bk0 _ (mr1r hc) | exact bk0 _ (mr2 hs hc) | (rw [yall hY hc]; exact bk _ (mr3 hs hv))

end Go.S23

