import Derived.Test.YtppghgoeibelkaaB2
set_option linter.unusedSimpArgs false
set_option linter.unusedVariables false
namespace Go.S23
open Go.RowKit Go.Proofs Go.Eng Go.Rect
/-- imageeditor/mask.New -/
theorem new_fn (w h v : Int) : Eng.Fn Try.prog 14 [.i w, .i h, .i v] (.tup [.agg [.dat (.i (newR w h v).w), .dat (.i (newR w h v).h), .own 3 1 ((newR w h v).v.map iC)], .dat (.i (newE w h v))]) := by
  refine Eng.Fn.by (fn := Try.f14) 24 [.cell 6 24, .tmp 7] Try.func14 rfl Try.ntmps14 rfl (by simp) fun w0 => ?_
  refine WA_seq (x := (fcd Try.f14 [0])) (y := (fcd Try.f14 [1])) ?_
  refine V_regionX Γ Δ [] [0, 1, 2, 6, 7, 8, 13, 18] (evs ?_)
  all_goals (try with_reducible (repeat' (first | apply And.intro | intro _)))
  all_goals (try (first | with_reducible refine wa_id ?_ | exact True.intro | omega))
  refine WA_seq (x := (fcd Try.f14 [1, 0])) (y := (fcd Try.f14 [1, 1])) ?_
  refine WA_seq (x := (fcd Try.f14 [1, 0, 0])) (y := (fcd Try.f14 [1, 0, 1])) ?_
  refine V_regionX Γ Δ [] [0, 1, 2, 6, 7, 8, 13, 18] (evs ?_)
  all_goals (try with_reducible (repeat' (first | apply And.intro | intro _)))
  all_goals (try (first | with_reducible refine wa_id ?_ | exact True.intro | exact msized_fn _ _ | omega))
  refine WA_seq (x := (fcd Try.f14 [1, 0, 1, 0])) (y := (fcd Try.f14 [1, 0, 1, 1])) ?_
  refine V_regionX Γ Δ [] [0, 1, 2, 6, 7, 8, 13, 18] (evs ?_)
  all_goals (try with_reducible (repeat' (first | apply And.intro | intro _)))
  all_goals (try (first | with_reducible refine wa_id ?_ | exact True.intro | omega))
  refine V_cond (evs ?_)
  refine ⟨fun hc => ?_, fun hc => ?_⟩
  · refine WA_seq (x := (fcd Try.f14 [1, 0, 1, 1, 0, 0])) (y := (fcd Try.f14 [1, 0, 1, 1, 0, 1])) ?_
    refine V_regionX Γ Δ [] [0, 1, 2, 6, 7, 8, 13, 18] (evs ?_)
    all_goals (try with_reducible (repeat' (first | apply And.intro | intro _)))
    all_goals (try (first | with_reducible refine wa_id ?_ | exact True.intro | omega))
    refine V_ret (evs ?_)
    first | exact bk0 _ (nw1 hc) | exact bk0 _ (nw2 ‹_› hc) | exact bk _ (nw3 ‹_› hc)
  · refine WA_skip ?_
    refine WA_seq (x := (fcd Try.f14 [1, 1, 0])) (y := (fcd Try.f14 [1, 1, 1])) ?_
    refine WA_seq (x := (fcd Try.f14 [1, 1, 0, 0])) (y := (fcd Try.f14 [1, 1, 0, 1])) ?_
    refine V_regionX Γ Δ [] [0, 1, 2, 6, 7, 8, 13, 18] (evs ?_)
    all_goals (try with_reducible (repeat' (first | apply And.intro | intro _)))
    all_goals (try (first | with_reducible refine wa_id ?_ | exact True.intro | exact munit_fn _ | omega))
    refine V_cond (evs ?_)
    refine ⟨fun hc => ?_, fun hc => ?_⟩
    · refine WA_seq (x := (fcd Try.f14 [1, 1, 0, 1, 0, 0])) (y := (fcd Try.f14 [1, 1, 0, 1, 0, 1])) ?_
      refine V_regionX Γ Δ [] [0, 1, 2, 6, 7, 8, 13, 18] (evs ?_)
      all_goals (try with_reducible (repeat' (first | apply And.intro | intro _)))
      all_goals (try (first | with_reducible refine wa_id ?_ | exact True.intro | omega))
      refine V_ret (evs ?_)
      first | exact bk0 _ (nw1 hc) | exact bk0 _ (nw2 ‹_› hc) | exact bk _ (nw3 ‹_› hc)
    · refine WA_skip ?_
      refine WA_seq (x := (fcd Try.f14 [1, 1, 1, 0])) (y := (fcd Try.f14 [1, 1, 1, 1])) ?_
      refine V_regionX Γ Δ [] [0, 1, 2, 6, 7, 8, 13, 18] (evs ?_)
      have hz := sz_z (sizedE_0 ‹sizedE w h = 0›)
      all_goals (try with_reducible (repeat' (first | apply And.intro | intro _)))
      all_goals (try (first | with_reducible refine wa_id ?_ | exact True.intro | exact even_fn _ _ _ hz | omega))
      refine V_ret (evs ?_)
      first | exact bk0 _ (nw1 hc) | exact bk0 _ (nw2 ‹_› hc) | exact bk _ (nw3 ‹_› hc)

/-- imageeditor/imageeditorref23.New -/
theorem rnew_fn (w h v : Int) : Eng.Fn Try.prog 15 [.i w, .i h, .i v] (.tup [.agg [.dat (.i (newR w h v).w), .dat (.i (newR w h v).h), .own 3 1 ((newR w h v).v.map iC)], .dat (.i (newE w h v))]) := by
  refine Eng.Fn.by (fn := Try.f15) 39 [.cell 6 24, .tmp 7] Try.func15 rfl Try.ntmps15 rfl (by simp) fun w0 => ?_
  refine WA_seq (x := (fcd Try.f15 [0])) (y := (fcd Try.f15 [1])) ?_
  refine V_regionX Γ Δ [35] [0, 1, 2, 6, 7, 8, 9, 13, 20, 29] (evs ?_)
  all_goals (try with_reducible (repeat' (first | apply And.intro | intro _)))
  all_goals (try (first | with_reducible refine wa_id ?_ | exact True.intro | omega | (rw [tab_len]; omega)))
  refine WA_seq (x := (fcd Try.f15 [1, 0])) (y := (fcd Try.f15 [1, 1])) ?_
  refine WA_seq (x := (fcd Try.f15 [1, 0, 0])) (y := (fcd Try.f15 [1, 0, 1])) ?_
  refine V_regionX Γ Δ [35] [0, 1, 2, 6, 7, 8, 9, 13, 20, 29] (evs ?_)
  all_goals (try with_reducible (repeat' (first | apply And.intro | intro _)))
  all_goals (try (first | with_reducible refine wa_id ?_ | exact True.intro | exact rsized_fn _ _ | omega | (rw [tab_len]; omega)))
  refine V_cond (evs ?_)
  refine ⟨fun hc => ?_, fun hc => ?_⟩
  · refine WA_seq (x := (fcd Try.f15 [1, 0, 1, 0, 0])) (y := (fcd Try.f15 [1, 0, 1, 0, 1])) ?_
    refine V_regionX Γ Δ [35] [0, 1, 2, 6, 7, 8, 9, 13, 20, 29] (evs ?_)
    all_goals (try with_reducible (repeat' (first | apply And.intro | intro _)))
    all_goals (try (first | with_reducible refine wa_id ?_ | exact True.intro | omega | (rw [tab_len]; omega)))
    refine V_ret (evs ?_)
    first | exact bk0 _ (nw1r hc) | exact bk0 _ (nw2r ‹_› hc) | exact bk _ (nw3r hs hu hI hc)
  · refine WA_skip ?_
    refine WA_seq (x := (fcd Try.f15 [1, 1, 0])) (y := (fcd Try.f15 [1, 1, 1])) ?_
    refine WA_seq (x := (fcd Try.f15 [1, 1, 0, 0])) (y := (fcd Try.f15 [1, 1, 0, 1])) ?_
    refine V_regionX Γ Δ [35] [0, 1, 2, 6, 7, 8, 9, 13, 20, 29] (evs ?_)
    all_goals (try with_reducible (repeat' (first | apply And.intro | intro _)))
    all_goals (try (first | with_reducible refine wa_id ?_ | exact True.intro | omega | (rw [tab_len]; omega)))
    refine V_cond (evs ?_)
    refine ⟨fun hc => ?_, fun hc => ?_⟩
    · refine WA_seq (x := (fcd Try.f15 [1, 1, 0, 1, 0, 0])) (y := (fcd Try.f15 [1, 1, 0, 1, 0, 1])) ?_
      refine V_regionX Γ Δ [35] [0, 1, 2, 6, 7, 8, 9, 13, 20, 29] (evs ?_)
      all_goals (try with_reducible (repeat' (first | apply And.intro | intro _)))
      all_goals (try (first | with_reducible refine wa_id ?_ | exact True.intro | omega | (rw [tab_len]; omega)))
      refine V_ret (evs ?_)
      first | exact bk0 _ (nw1r hc) | exact bk0 _ (nw2r ‹_› hc) | exact bk _ (nw3r hs hu hI hc)
    · refine WA_skip ?_
      refine WA_seq (x := (fcd Try.f15 [1, 1, 1, 0])) (y := (fcd Try.f15 [1, 1, 1, 1])) ?_
      refine V_regionX Γ Δ [35] [0, 1, 2, 6, 7, 8, 9, 13, 20, 29] (evs ?_)
      have hs := sized_T.1 ‹sizedB w h = true›
      have hz := sz_z hs
      have hb := nn_bd hz
      have hu := ut hc
      all_goals (try with_reducible (repeat' (first | apply And.intro | intro _)))
      all_goals (try (first | with_reducible refine wa_id ?_ | exact True.intro | omega | (rw [tab_len]; omega)))
      refine WA_seq (x := (fcd Try.f15 [1, 1, 1, 1, 0])) (y := (fcd Try.f15 [1, 1, 1, 1, 1])) ?_
      refine WA_seq (x := (fcd Try.f15 [1, 1, 1, 1, 0, 0])) (y := (fcd Try.f15 [1, 1, 1, 1, 0, 1])) ?_
      refine V_regionX Γ Δ [35] [0, 1, 2, 6, 7, 8, 9, 13, 20, 29] (evs ?_)
      all_goals (try with_reducible (repeat' (first | apply And.intro | intro _)))
      all_goals (try (first | with_reducible refine wa_id ?_ | exact True.intro | omega | (rw [tab_len]; omega)))
      refine WA_block (c := (fcd Try.f15 [1, 1, 1, 1, 0, 1, 0])) ?_
      refine V_loop (c := (fcd Try.f15 [1, 1, 1, 1, 0, 1, 0, 0])) (α := Nat) [9, 29] [8, 35, 36] (fun k => [(9, .dat (.i (k : Int)))]) (fun k => [(20000, some (true, .arr 3 1 ((tab k (gF w.toNat fun _ _ => v)).map iC))), (8, some (true, .box 24 [.dat (.i w), .dat (.i h), .vw 20000 0 (k) 1]))]) (fun k => k ≤ nn w h) (fun k => nn w h - k) 0 [(20000, none)] ?_ (evs ?_) ?_
      · exact Nat.zero_le _
      · (try with_reducible (repeat' (first | apply And.intro | intro _)))
        all_goals (first | exact True.intro | omega | (first | rfl | (simp [tab]; done)))
      · intro k hI
        refine WA_seq (x := (fcd Try.f15 [1, 1, 1, 1, 0, 1, 0, 0, 0])) (y := (fcd Try.f15 [1, 1, 1, 1, 0, 1, 0, 0, 1])) ?_
        refine WA_seq (x := (fcd Try.f15 [1, 1, 1, 1, 0, 1, 0, 0, 0, 0])) (y := (fcd Try.f15 [1, 1, 1, 1, 0, 1, 0, 0, 0, 1])) ?_
        refine V_regionX Γ Δ [35] [0, 1, 2, 6, 7, 8, 9, 13, 20, 29] (evs ?_)
        simp only [wN hz]
        all_goals (try with_reducible (repeat' (first | apply And.intro | intro _)))
        all_goals (try (first | with_reducible refine wa_id ?_ | exact True.intro | omega | (rw [tab_len]; omega)))
        refine V_cond (evs ?_)
        refine ⟨fun hc => ?_, fun hc => ?_⟩
        · refine WA_skip ?_
          refine WA_seq (x := (fcd Try.f15 [1, 1, 1, 1, 0, 1, 0, 0, 1, 0])) (y := (fcd Try.f15 [1, 1, 1, 1, 0, 1, 0, 0, 1, 1])) ?_
          refine WA_block (c := (fcd Try.f15 [1, 1, 1, 1, 0, 1, 0, 0, 1, 0, 0])) ?_
          refine V_regionX Γ Δ [35] [0, 1, 2, 6, 7, 8, 9, 13, 20, 29] (evs ?_)
          all_goals (try with_reducible (repeat' (first | apply And.intro | intro _)))
          all_goals (try (first | with_reducible refine wa_id ?_ | exact True.intro | omega | (rw [tab_len]; omega)))
          refine V_regionX Γ Δ [35] [0, 1, 2, 6, 7, 8, 9, 13, 20, 29] (evs ?_)
          all_goals (try with_reducible (repeat' (first | apply And.intro | intro _)))
          all_goals (try (first | with_reducible refine wa_id ?_ | exact True.intro | omega | (rw [tab_len]; omega)))
          refine V_next [(20000, some 36)] (k + 1) (evs ?_) ?_ ?_
          all_goals (try with_reducible (repeat' (first | apply And.intro | intro _)))
          all_goals (first | exact True.intro | omega | (first | exact w64l (n := 65536) (by omega) (by omega) | exact tab_app rfl))
        · refine V_exit (evs ?_)
          refine WA_seq (x := (fcd Try.f15 [1, 1, 1, 1, 1, 0])) (y := (fcd Try.f15 [1, 1, 1, 1, 1, 1])) ?_
          refine V_regionX Γ Δ [35] [0, 1, 2, 6, 7, 8, 9, 13, 20, 29] (evs ?_)
          all_goals (try with_reducible (repeat' (first | apply And.intro | intro _)))
          all_goals (try (first | with_reducible refine wa_id ?_ | exact True.intro | omega | (rw [tab_len]; omega)))
          refine V_ret (evs ?_)
          first | exact bk0 _ (nw1r hc) | exact bk0 _ (nw2r ‹_› hc) | exact bk _ (nw3r hs hu hI hc)

/-- imageeditor/imageeditorref23.Pick -/
theorem pick_fn (m : Mk) (x y : Int) (hm : mchkE m = 0) : Eng.Fn Try.prog 64 [mkD m, .i x, .i y] (.dat (.i (pickM m x y))) := by
  refine Eng.Fn.by (fn := Try.f64) 35 [.tmp 6] Try.func64 rfl Try.ntmps64 rfl (by simp) fun w0 => ?_
  refine WA_seq (x := (fcd Try.f64 [0])) (y := (fcd Try.f64 [1])) ?_
  refine V_regionX Γ Δ [] [0, 1, 2, 3, 6, 24] (evs ?_)
  all_goals (try with_reducible (repeat' (first | apply And.intro | intro _)))
  all_goals (try (first | with_reducible refine wa_id ?_ | exact True.intro | omega))
  refine WA_seq (x := (fcd Try.f64 [1, 0])) (y := (fcd Try.f64 [1, 1])) ?_
  refine WA_seq (x := (fcd Try.f64 [1, 0, 0])) (y := (fcd Try.f64 [1, 0, 1])) ?_
  refine V_regionX Γ Δ [] [0, 1, 2, 3, 6, 24] (evs ?_)
  all_goals (try with_reducible (repeat' (first | apply And.intro | intro _)))
  all_goals (try (first | with_reducible refine wa_id ?_ | exact True.intro | omega))
  refine V_cond (evs ?_)
  refine ⟨fun hc => ?_, fun hc => ?_⟩
  · refine WA_seq (x := (fcd Try.f64 [1, 0, 1, 0, 0])) (y := (fcd Try.f64 [1, 0, 1, 0, 1])) ?_
    refine V_regionX Γ Δ [] [0, 1, 2, 3, 6, 24] (evs ?_)
    all_goals (try with_reducible (repeat' (first | apply And.intro | intro _)))
    all_goals (try (first | with_reducible refine wa_id ?_ | exact True.intro | omega))
    refine V_ret (evs ?_)
    first | exact pk1 hc | exact pk2 hc
  · refine WA_skip ?_
    refine WA_seq (x := (fcd Try.f64 [1, 1, 0])) (y := (fcd Try.f64 [1, 1, 1])) ?_
    refine V_regionX Γ Δ [] [0, 1, 2, 3, 6, 24] (evs ?_)
    have ha := atI hm (pk0 hc)
    simp (maxSteps := 10000000) (disch := omega) only [w64]
    all_goals (try with_reducible (repeat' (first | apply And.intro | intro _)))
    all_goals (try (first | with_reducible refine wa_id ?_ | exact True.intro | omega))
    refine V_ret (evs ?_)
    first | exact pk1 hc | exact pk2 hc

/-- imageeditor/mask.At -/
theorem at_fn (m : Mk) (x y : Int) : Eng.Fn Try.prog 40 [mkD m, .i x, .i y] (.dat (.i (atM m x y))) := by
  refine Eng.Fn.by (fn := Try.f40) 27 [.tmp 6] Try.func40 rfl Try.ntmps40 rfl (by simp) fun w0 => ?_
  refine WA_seq (x := (fcd Try.f40 [0])) (y := (fcd Try.f40 [1])) ?_
  refine V_regionX Γ Δ [] [0, 1, 2, 3, 6, 16] (evs ?_)
  all_goals (try with_reducible (repeat' (first | apply And.intro | intro _)))
  all_goals (try (first | with_reducible refine wa_id ?_ | exact True.intro | omega))
  refine WA_seq (x := (fcd Try.f40 [1, 0])) (y := (fcd Try.f40 [1, 1])) ?_
  refine WA_seq (x := (fcd Try.f40 [1, 0, 0])) (y := (fcd Try.f40 [1, 0, 1])) ?_
  refine V_regionX Γ Δ [] [0, 1, 2, 3, 6, 16] (evs ?_)
  all_goals (try with_reducible (repeat' (first | apply And.intro | intro _)))
  all_goals (try (first | with_reducible refine wa_id ?_ | exact True.intro | exact inside23_fn ⟨_, _, _⟩ _ _ | exact mcheck_fn ⟨_, _, _⟩ | omega))
  refine V_cond (evs ?_)
  refine ⟨fun hc => ?_, fun hc => ?_⟩
  · refine WA_seq (x := (fcd Try.f40 [1, 0, 1, 0, 0])) (y := (fcd Try.f40 [1, 0, 1, 0, 1])) ?_
    refine V_regionX Γ Δ [] [0, 1, 2, 3, 6, 16] (evs ?_)
    all_goals (try with_reducible (repeat' (first | apply And.intro | intro _)))
    all_goals (try (first | with_reducible refine wa_id ?_ | exact True.intro | omega))
    refine V_ret (evs ?_)
    first | exact at1 hc | exact at2 hc.2 hc.1
  · refine WA_skip ?_
    refine WA_seq (x := (fcd Try.f40 [1, 1, 0])) (y := (fcd Try.f40 [1, 1, 1])) ?_
    refine V_regionX Γ Δ [] [0, 1, 2, 3, 6, 16] (evs ?_)
    have ha := atI hc.2 hc.1
    simp (maxSteps := 10000000) (disch := omega) only [w64]
    all_goals (try with_reducible (repeat' (first | apply And.intro | intro _)))
    all_goals (try (first | with_reducible refine wa_id ?_ | exact True.intro | omega))
    refine V_ret (evs ?_)
    first | exact at1 hc | exact at2 hc.2 hc.1

/-- imageeditor/imageeditorref23.At -/
theorem rat_fn (m : Mk) (x y : Int) : Eng.Fn Try.prog 41 [mkD m, .i x, .i y] (.dat (.i (atM m x y))) := by
  refine Eng.Fn.by (fn := Try.f41) 14 [.tmp 6] Try.func41 rfl Try.ntmps41 rfl (by simp) fun w0 => ?_
  refine WA_seq (x := (fcd Try.f41 [0])) (y := (fcd Try.f41 [1])) ?_
  refine V_regionX Γ Δ [] [0, 1, 2, 3, 6, 9] (evs ?_)
  all_goals (try with_reducible (repeat' (first | apply And.intro | intro _)))
  all_goals (try (first | with_reducible refine wa_id ?_ | exact True.intro | omega))
  refine WA_seq (x := (fcd Try.f41 [1, 0])) (y := (fcd Try.f41 [1, 1])) ?_
  refine WA_seq (x := (fcd Try.f41 [1, 0, 0])) (y := (fcd Try.f41 [1, 0, 1])) ?_
  refine V_regionX Γ Δ [] [0, 1, 2, 3, 6, 9] (evs ?_)
  all_goals (try with_reducible (repeat' (first | apply And.intro | intro _)))
  all_goals (try (first | with_reducible refine wa_id ?_ | exact True.intro | exact rmcheck_fn ⟨_, _, _⟩ | omega))
  refine V_cond (evs ?_)
  refine ⟨fun hc => ?_, fun hc => ?_⟩
  · refine WA_seq (x := (fcd Try.f41 [1, 0, 1, 0, 0])) (y := (fcd Try.f41 [1, 0, 1, 0, 1])) ?_
    refine V_regionX Γ Δ [] [0, 1, 2, 3, 6, 9] (evs ?_)
    all_goals (try with_reducible (repeat' (first | apply And.intro | intro _)))
    all_goals (try (first | with_reducible refine wa_id ?_ | exact True.intro | omega))
    refine V_ret (evs ?_)
    first | exact at1 (.inr hc) | exact at3 hc
  · refine WA_skip ?_
    refine WA_seq (x := (fcd Try.f41 [1, 1, 0])) (y := (fcd Try.f41 [1, 1, 1])) ?_
    refine V_regionX Γ Δ [] [0, 1, 2, 3, 6, 9] (evs ?_)
    have hm := hc
    all_goals (try with_reducible (repeat' (first | apply And.intro | intro _)))
    all_goals (try (first | with_reducible refine wa_id ?_ | exact True.intro | exact pick_fn ⟨_, _, _⟩ _ _ hm | omega))
    refine V_ret (evs ?_)
    first | exact at1 (.inr hc) | exact at3 hc

end Go.S23

