import Derived.Test.YtppghgoeibelkaaLD
import Derived.Test.YtppghgoeibelkaaB2
set_option linter.unusedSimpArgs false
set_option linter.unusedVariables false
namespace Go.S23
open Go.RowKit Go.Proofs Go.Eng Go.Rect
/-- imageeditor/mask.Invert -/
theorem inv_fn (m : Mk) : Eng.Fn Try.prog 36 [mkD m] (.tup [.agg [.dat (.i (invR m).w), .dat (.i (invR m).h), .own 3 1 ((invR m).v.map iC)], .dat (.i (mchkE m))]) := by
  refine Eng.Fn.by (fn := Try.f36) 35 [.cell 2 24, .tmp 3] Try.func36 rfl Try.ntmps36 rfl (by simp) fun w0 => ?_
  refine WA_seq (x := (fcd Try.f36 [0])) (y := (fcd Try.f36 [1])) ?_
  refine V_regionX Γ Δ [] [0, 1, 2, 3, 4, 5, 6, 7, 11, 20, 21, 22, 23] (evs ?_)
  all_goals (try with_reducible (repeat' (first | apply And.intro | intro _)))
  all_goals (try (first | with_reducible refine wa_id ?_ | exact True.intro | omega))
  refine WA_seq (x := (fcd Try.f36 [1, 0])) (y := (fcd Try.f36 [1, 1])) ?_
  refine WA_seq (x := (fcd Try.f36 [1, 0, 0])) (y := (fcd Try.f36 [1, 0, 1])) ?_
  refine V_regionX Γ Δ [] [0, 1, 2, 3, 4, 5, 6, 7, 11, 20, 21, 22, 23] (evs ?_)
  all_goals (try with_reducible (repeat' (first | apply And.intro | intro _)))
  all_goals (try (first | with_reducible refine wa_id ?_ | exact True.intro | exact mcheck_fn ⟨_, _, _⟩ | omega))
  refine WA_seq (x := (fcd Try.f36 [1, 0, 1, 0])) (y := (fcd Try.f36 [1, 0, 1, 1])) ?_
  refine V_regionX Γ Δ [] [0, 1, 2, 3, 4, 5, 6, 7, 11, 20, 21, 22, 23] (evs ?_)
  all_goals (try with_reducible (repeat' (first | apply And.intro | intro _)))
  all_goals (try (first | with_reducible refine wa_id ?_ | exact True.intro | omega))
  refine V_cond (evs ?_)
  refine ⟨fun hc => ?_, fun hc => ?_⟩
  · refine WA_seq (x := (fcd Try.f36 [1, 0, 1, 1, 0, 0])) (y := (fcd Try.f36 [1, 0, 1, 1, 0, 1])) ?_
    refine V_regionX Γ Δ [] [0, 1, 2, 3, 4, 5, 6, 7, 11, 20, 21, 22, 23] (evs ?_)
    all_goals (try with_reducible (repeat' (first | apply And.intro | intro _)))
    all_goals (try (first | with_reducible refine wa_id ?_ | exact True.intro | omega))
    refine V_ret (evs ?_)
    first | exact (bk0 _ (iv1 hc)).1 | (rw [fil_all (by omega)]; exact bk _ (iv2 hm))
  · refine WA_skip ?_
    refine WA_seq (x := (fcd Try.f36 [1, 1, 0])) (y := (fcd Try.f36 [1, 1, 1])) ?_
    refine V_regionX Γ Δ [] [0, 1, 2, 3, 4, 5, 6, 7, 11, 20, 21, 22, 23] (evs ?_)
    have hm := ‹mchkE m = 0›
    have hq := mchk0 hm
    have hz := hq.1
    have hnb := nn_bd hz
    have hln := hq.2.2.1
    all_goals (try with_reducible (repeat' (first | apply And.intro | intro _)))
    all_goals (try (first | with_reducible refine wa_id ?_ | exact True.intro | exact blank_fn _ _ hz | omega))
    refine WA_seq (x := (fcd Try.f36 [1, 1, 1, 0])) (y := (fcd Try.f36 [1, 1, 1, 1])) ?_
    refine WA_seq (x := (fcd Try.f36 [1, 1, 1, 0, 0])) (y := (fcd Try.f36 [1, 1, 1, 0, 1])) ?_
    refine V_regionX Γ Δ [] [0, 1, 2, 3, 4, 5, 6, 7, 11, 20, 21, 22, 23] (evs ?_)
    all_goals (try with_reducible (repeat' (first | apply And.intro | intro _)))
    all_goals (try (first | with_reducible refine wa_id ?_ | exact True.intro | omega))
    refine WA_block (c := (fcd Try.f36 [1, 1, 1, 0, 1, 0])) ?_
    refine V_loop (c := (fcd Try.f36 [1, 1, 1, 0, 1, 0, 0])) (α := Nat) [6, 7, 22, 23] [11800] (fun k => [(22, .dat (.i (k : Int)))]) (fun k => [(11800, some (true, .arr 3 1 ((fil (nn m.w m.h) (iF m) k).map iC)))]) (fun k => k ≤ m.v.length) (fun k => m.v.length - k) 0 [] ?_ (evs ?_) ?_
    · exact Nat.zero_le _
    · (try with_reducible (repeat' (first | apply And.intro | intro _)))
      all_goals (first | exact True.intro | omega | (first | exact fil_0I _ _ | rfl))
    · intro k hI
      refine WA_seq (x := (fcd Try.f36 [1, 1, 1, 0, 1, 0, 0, 0])) (y := (fcd Try.f36 [1, 1, 1, 0, 1, 0, 0, 1])) ?_
      refine V_regionX Γ Δ [] [0, 1, 2, 3, 4, 5, 6, 7, 11, 20, 21, 22, 23] (evs ?_)
      all_goals (try with_reducible (repeat' (first | apply And.intro | intro _)))
      all_goals (try (first | with_reducible refine wa_id ?_ | exact True.intro | omega))
      refine WA_seq (x := (fcd Try.f36 [1, 1, 1, 0, 1, 0, 0, 1, 0])) (y := (fcd Try.f36 [1, 1, 1, 0, 1, 0, 0, 1, 1])) ?_
      refine V_cond (evs ?_)
      refine ⟨fun hc => ?_, fun hc => ?_⟩
      · refine WA_skip ?_
        refine WA_seq (x := (fcd Try.f36 [1, 1, 1, 0, 1, 0, 0, 1, 1, 0])) (y := (fcd Try.f36 [1, 1, 1, 0, 1, 0, 0, 1, 1, 1])) ?_
        refine WA_block (c := (fcd Try.f36 [1, 1, 1, 0, 1, 0, 0, 1, 1, 0, 0])) ?_
        refine WA_seq (x := (fcd Try.f36 [1, 1, 1, 0, 1, 0, 0, 1, 1, 0, 0, 0])) (y := (fcd Try.f36 [1, 1, 1, 0, 1, 0, 0, 1, 1, 0, 0, 1])) ?_
        refine V_regionX Γ Δ [] [0, 1, 2, 3, 4, 5, 6, 7, 11, 20, 21, 22, 23] (evs ?_)
        all_goals (try with_reducible (repeat' (first | apply And.intro | intro _)))
        all_goals (try (first | with_reducible refine wa_id ?_ | exact True.intro | omega))
        refine V_regionX Γ Δ [] [0, 1, 2, 3, 4, 5, 6, 7, 11, 20, 21, 22, 23] (evs ?_)
        have hv := hq.2.2.2 k
        simp (maxSteps := 10000000) (disch := omega) only [w64]
        all_goals (try with_reducible (repeat' (first | apply And.intro | intro _)))
        all_goals (try (first | with_reducible refine wa_id ?_ | exact True.intro | omega))
        refine V_regionX Γ Δ [] [0, 1, 2, 3, 4, 5, 6, 7, 11, 20, 21, 22, 23] (evs ?_)
        all_goals (try with_reducible (repeat' (first | apply And.intro | intro _)))
        all_goals (try (first | with_reducible refine wa_id ?_ | exact True.intro | omega))
        refine V_next [] (k + 1) (evs ?_) ?_ ?_
        all_goals (try with_reducible (repeat' (first | apply And.intro | intro _)))
        all_goals (first | exact True.intro | omega | (first | exact w64l (n := 65536) (by omega) (by omega) | exact fil_setI rfl))
      · refine V_exit (evs ?_)
        refine WA_seq (x := (fcd Try.f36 [1, 1, 1, 1, 0])) (y := (fcd Try.f36 [1, 1, 1, 1, 1])) ?_
        refine V_regionX Γ Δ [] [0, 1, 2, 3, 4, 5, 6, 7, 11, 20, 21, 22, 23] (evs ?_)
        all_goals (try with_reducible (repeat' (first | apply And.intro | intro _)))
        all_goals (try (first | with_reducible refine wa_id ?_ | exact True.intro | omega))
        refine V_ret (evs ?_)
        first | exact (bk0 _ (iv1 hc)).1 | (rw [fil_all (by omega)]; exact bk _ (iv2 hm))

/-- imageeditor/imageeditorref23.Invert -/
theorem rinv_fn (m : Mk) : Eng.Fn Try.prog 37 [mkD m] (.tup [.agg [.dat (.i (invR m).w), .dat (.i (invR m).h), .own 3 1 ((invR m).v.map iC)], .dat (.i (mchkE m))]) := by
  refine Eng.Fn.by (fn := Try.f37) 37 [.cell 2 24, .tmp 3] Try.func37 rfl Try.ntmps37 rfl (by simp) fun w0 => ?_
  refine WA_seq (x := (fcd Try.f37 [0])) (y := (fcd Try.f37 [1])) ?_
  refine V_regionX Γ Δ [33] [0, 1, 2, 3, 4, 5, 6, 10, 22] (evs ?_)
  all_goals (try with_reducible (repeat' (first | apply And.intro | intro _)))
  all_goals (try (first | with_reducible refine wa_id ?_ | exact True.intro | omega | (rw [tab_len]; omega)))
  refine WA_seq (x := (fcd Try.f37 [1, 0])) (y := (fcd Try.f37 [1, 1])) ?_
  refine WA_seq (x := (fcd Try.f37 [1, 0, 0])) (y := (fcd Try.f37 [1, 0, 1])) ?_
  refine V_regionX Γ Δ [33] [0, 1, 2, 3, 4, 5, 6, 10, 22] (evs ?_)
  all_goals (try with_reducible (repeat' (first | apply And.intro | intro _)))
  all_goals (try (first | with_reducible refine wa_id ?_ | exact True.intro | exact rmcheck_fn ⟨_, _, _⟩ | omega | (rw [tab_len]; omega)))
  refine WA_seq (x := (fcd Try.f37 [1, 0, 1, 0])) (y := (fcd Try.f37 [1, 0, 1, 1])) ?_
  refine V_regionX Γ Δ [33] [0, 1, 2, 3, 4, 5, 6, 10, 22] (evs ?_)
  all_goals (try with_reducible (repeat' (first | apply And.intro | intro _)))
  all_goals (try (first | with_reducible refine wa_id ?_ | exact True.intro | omega | (rw [tab_len]; omega)))
  refine V_cond (evs ?_)
  refine ⟨fun hc => ?_, fun hc => ?_⟩
  · refine WA_seq (x := (fcd Try.f37 [1, 0, 1, 1, 0, 0])) (y := (fcd Try.f37 [1, 0, 1, 1, 0, 1])) ?_
    refine V_regionX Γ Δ [33] [0, 1, 2, 3, 4, 5, 6, 10, 22] (evs ?_)
    all_goals (try with_reducible (repeat' (first | apply And.intro | intro _)))
    all_goals (try (first | with_reducible refine wa_id ?_ | exact True.intro | omega | (rw [tab_len]; omega)))
    refine V_ret (evs ?_)
    first | exact (bk0 _ (iv1 hc)).1 | exact bk _ (iv2r hm (by omega))
  · refine WA_skip ?_
    refine WA_seq (x := (fcd Try.f37 [1, 1, 0])) (y := (fcd Try.f37 [1, 1, 1])) ?_
    refine V_regionX Γ Δ [33] [0, 1, 2, 3, 4, 5, 6, 10, 22] (evs ?_)
    have hm := ‹mchkE m = 0›
    have hq := mchk0 hm
    have hz := hq.1
    have hnb := nn_bd hz
    have hln := hq.2.2.1
    all_goals (try with_reducible (repeat' (first | apply And.intro | intro _)))
    all_goals (try (first | with_reducible refine wa_id ?_ | exact True.intro | omega | (rw [tab_len]; omega)))
    refine WA_seq (x := (fcd Try.f37 [1, 1, 1, 0])) (y := (fcd Try.f37 [1, 1, 1, 1])) ?_
    refine WA_seq (x := (fcd Try.f37 [1, 1, 1, 0, 0])) (y := (fcd Try.f37 [1, 1, 1, 0, 1])) ?_
    refine V_regionX Γ Δ [33] [0, 1, 2, 3, 4, 5, 6, 10, 22] (evs ?_)
    all_goals (try with_reducible (repeat' (first | apply And.intro | intro _)))
    all_goals (try (first | with_reducible refine wa_id ?_ | exact True.intro | omega | (rw [tab_len]; omega)))
    refine WA_block (c := (fcd Try.f37 [1, 1, 1, 0, 1, 0])) ?_
    refine V_loop (c := (fcd Try.f37 [1, 1, 1, 0, 1, 0, 0])) (α := Nat) [6, 22] [5, 33, 34] (fun k => [(6, .dat (.i (k : Int)))]) (fun k => [(20000, some (true, .arr 3 1 ((tab k (iF m)).map iC))), (5, some (true, .box 24 [.dat (.i m.w), .dat (.i m.h), .vw 20000 0 (k) 1]))]) (fun k => k ≤ m.v.length) (fun k => m.v.length - k) 0 [(20000, none)] ?_ (evs ?_) ?_
    · exact Nat.zero_le _
    · (try with_reducible (repeat' (first | apply And.intro | intro _)))
      all_goals (first | exact True.intro | omega | (first | rfl | (simp [tab]; done)))
    · intro k hI
      refine WA_seq (x := (fcd Try.f37 [1, 1, 1, 0, 1, 0, 0, 0])) (y := (fcd Try.f37 [1, 1, 1, 0, 1, 0, 0, 1])) ?_
      refine WA_seq (x := (fcd Try.f37 [1, 1, 1, 0, 1, 0, 0, 0, 0])) (y := (fcd Try.f37 [1, 1, 1, 0, 1, 0, 0, 0, 1])) ?_
      refine V_regionX Γ Δ [33] [0, 1, 2, 3, 4, 5, 6, 10, 22] (evs ?_)
      all_goals (try with_reducible (repeat' (first | apply And.intro | intro _)))
      all_goals (try (first | with_reducible refine wa_id ?_ | exact True.intro | omega | (rw [tab_len]; omega)))
      refine V_cond (evs ?_)
      refine ⟨fun hc => ?_, fun hc => ?_⟩
      · refine WA_skip ?_
        refine WA_seq (x := (fcd Try.f37 [1, 1, 1, 0, 1, 0, 0, 1, 0])) (y := (fcd Try.f37 [1, 1, 1, 0, 1, 0, 0, 1, 1])) ?_
        refine WA_block (c := (fcd Try.f37 [1, 1, 1, 0, 1, 0, 0, 1, 0, 0])) ?_
        refine V_draw Γ [33] [0, 1, 2, 3, 4, 5, 6, 10, 22] mixed (by kernel_rfl) (evs ?_)
        have hv := hq.2.2.2 k
        simp (maxSteps := 10000000) (disch := omega) only [w64]
        all_goals (try with_reducible (repeat' (first | apply And.intro | intro _)))
        all_goals (try (first | with_reducible refine wa_id ?_ | exact True.intro | omega | (rw [tab_len]; omega)))
        refine V_regionX Γ Δ [33] [0, 1, 2, 3, 4, 5, 6, 10, 22] (evs ?_)
        all_goals (try with_reducible (repeat' (first | apply And.intro | intro _)))
        all_goals (try (first | with_reducible refine wa_id ?_ | exact True.intro | omega | (rw [tab_len]; omega)))
        refine V_next [(20000, some 34)] (k + 1) (evs ?_) ?_ ?_
        all_goals (try with_reducible (repeat' (first | apply And.intro | intro _)))
        all_goals (first | exact True.intro | omega | (first | exact w64l (n := 65536) (by omega) (by omega) | exact tab_app rfl))
      · refine V_exit (evs ?_)
        refine WA_seq (x := (fcd Try.f37 [1, 1, 1, 1, 0])) (y := (fcd Try.f37 [1, 1, 1, 1, 1])) ?_
        refine V_regionX Γ Δ [33] [0, 1, 2, 3, 4, 5, 6, 10, 22] (evs ?_)
        all_goals (try with_reducible (repeat' (first | apply And.intro | intro _)))
        all_goals (try (first | with_reducible refine wa_id ?_ | exact True.intro | omega | (rw [tab_len]; omega)))
        refine V_ret (evs ?_)
        first | exact (bk0 _ (iv1 hc)).1 | exact bk _ (iv2r hm (by omega))

end Go.S23

