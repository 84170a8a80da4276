import Derived.Test.YtgfebadcjjifdaaA12
import Derived.Test.YtgfebadcjjifdaaA8
import Derived.Test.YtgfebadcjjifdaaA1
namespace Go.S20
open Go.RowKit Go.Proofs Go.Eng Go.Rect
/-- imageeditor/cover.Paint -/
theorem cpaint_fn (ps : List (List Pt)) (rule : Int) (c : Px) (r : Rc) : Eng.Fn Try.prog 21 [.sl 1 (ps.map plyC), .i rule, pxD c, rcD r] (.tup [.agg [.dat (.i (paintR ps rule c r).w), .dat (.i (paintR ps rule c r).h), .own 40 4 ((paintR ps rule c r).p.map pxC)], .dat (.i (paintE ps rule c r))]) := by
  refine Eng.Fn.by (fn := Try.f21) 64 [.cell 8 43, .tmp 9] Try.func21 rfl Try.ntmps21 rfl (by simp) fun w0 => ?_
  refine WA_seq (x := (fcd Try.f21 [0])) (y := (fcd Try.f21 [1])) ?_
  refine V_regionX Γ Δ [31] [0, 1, 2, 3, 6, 7, 8, 9, 10, 11, 12, 13, 14, 15, 20, 25, 35, 48, 49, 50, 51] (evs ?_)
  all_goals (try with_reducible (repeat' (first | apply And.intro | intro _)))
  all_goals (try (first | with_reducible refine wa_id ?_ | exact True.intro | omega | (rw [pxK_len hK]; omega) | (have := mask_len ps rule r; omega)))
  refine WA_seq (x := (fcd Try.f21 [1, 0])) (y := (fcd Try.f21 [1, 1])) ?_
  refine WA_seq (x := (fcd Try.f21 [1, 0, 0])) (y := (fcd Try.f21 [1, 0, 1])) ?_
  refine V_regionX Γ Δ [31] [0, 1, 2, 3, 6, 7, 8, 9, 10, 11, 12, 13, 14, 15, 20, 25, 35, 48, 49, 50, 51] (evs ?_)
  all_goals (try with_reducible (repeat' (first | apply And.intro | intro _)))
  all_goals (try (first | with_reducible refine wa_id ?_ | exact True.intro | exact ccheck_fn _ _ | omega | (rw [pxK_len hK]; omega) | (have := mask_len ps rule r; omega)))
  refine WA_seq (x := (fcd Try.f21 [1, 0, 1, 0])) (y := (fcd Try.f21 [1, 0, 1, 1])) ?_
  refine V_regionX Γ Δ [31] [0, 1, 2, 3, 6, 7, 8, 9, 10, 11, 12, 13, 14, 15, 20, 25, 35, 48, 49, 50, 51] (evs ?_)
  all_goals (try with_reducible (repeat' (first | apply And.intro | intro _)))
  all_goals (try (first | with_reducible refine wa_id ?_ | exact True.intro | omega | (rw [pxK_len hK]; omega) | (have := mask_len ps rule r; omega)))
  refine V_cond (evs ?_)
  refine ⟨fun hc => ?_, fun hc => ?_⟩
  · refine WA_seq (x := (fcd Try.f21 [1, 0, 1, 1, 0, 0])) (y := (fcd Try.f21 [1, 0, 1, 1, 0, 1])) ?_
    refine V_regionX Γ Δ [31] [0, 1, 2, 3, 6, 7, 8, 9, 10, 11, 12, 13, 14, 15, 20, 25, 35, 48, 49, 50, 51] (evs ?_)
    all_goals (try with_reducible (repeat' (first | apply And.intro | intro _)))
    all_goals (try (first | with_reducible refine wa_id ?_ | exact True.intro | omega | (rw [pxK_len hK]; omega) | (have := mask_len ps rule r; omega)))
    refine V_ret (evs ?_)
    first | exact ik0 _ (pe1 hc) | exact ik0 _ (pe2 ‹_› hc) | exact ik0 _ (pe3 ‹_› ‹_› hc) | exact ikl _ (pxK_len hK).symm (pe5 ‹_› ‹_› ‹_› hc)
  · refine WA_skip ?_
    refine WA_seq (x := (fcd Try.f21 [1, 1, 0])) (y := (fcd Try.f21 [1, 1, 1])) ?_
    refine WA_seq (x := (fcd Try.f21 [1, 1, 0, 0])) (y := (fcd Try.f21 [1, 1, 0, 1])) ?_
    refine V_regionX Γ Δ [31] [0, 1, 2, 3, 6, 7, 8, 9, 10, 11, 12, 13, 14, 15, 20, 25, 35, 48, 49, 50, 51] (evs ?_)
    all_goals (try with_reducible (repeat' (first | apply And.intro | intro _)))
    all_goals (try (first | with_reducible refine wa_id ?_ | exact True.intro | exact pvalid6_fn _ | omega | (rw [pxK_len hK]; omega) | (have := mask_len ps rule r; omega)))
    refine V_cond (evs ?_)
    refine ⟨fun hc => ?_, fun hc => ?_⟩
    · refine WA_seq (x := (fcd Try.f21 [1, 1, 0, 1, 0, 0])) (y := (fcd Try.f21 [1, 1, 0, 1, 0, 1])) ?_
      refine V_regionX Γ Δ [31] [0, 1, 2, 3, 6, 7, 8, 9, 10, 11, 12, 13, 14, 15, 20, 25, 35, 48, 49, 50, 51] (evs ?_)
      all_goals (try with_reducible (repeat' (first | apply And.intro | intro _)))
      all_goals (try (first | with_reducible refine wa_id ?_ | exact True.intro | omega | (rw [pxK_len hK]; omega) | (have := mask_len ps rule r; omega)))
      refine V_ret (evs ?_)
      first | exact ik0 _ (pe1 hc) | exact ik0 _ (pe2 ‹_› hc) | exact ik0 _ (pe3 ‹_› ‹_› hc) | exact ikl _ (pxK_len hK).symm (pe5 ‹_› ‹_› ‹_› hc)
    · refine WA_skip ?_
      refine WA_seq (x := (fcd Try.f21 [1, 1, 1, 0])) (y := (fcd Try.f21 [1, 1, 1, 1])) ?_
      refine V_regionX Γ Δ [31] [0, 1, 2, 3, 6, 7, 8, 9, 10, 11, 12, 13, 14, 15, 20, 25, 35, 48, 49, 50, 51] (evs ?_)
      all_goals (try with_reducible (repeat' (first | apply And.intro | intro _)))
      all_goals (try (first | with_reducible refine wa_id ?_ | exact True.intro | exact cmask_fn _ _ ⟨_, _, _, _⟩ | omega | (rw [pxK_len hK]; omega) | (have := mask_len ps rule r; omega)))
      refine WA_seq (x := (fcd Try.f21 [1, 1, 1, 1, 0])) (y := (fcd Try.f21 [1, 1, 1, 1, 1])) ?_
      refine WA_seq (x := (fcd Try.f21 [1, 1, 1, 1, 0, 0])) (y := (fcd Try.f21 [1, 1, 1, 1, 0, 1])) ?_
      refine V_regionX Γ Δ [31] [0, 1, 2, 3, 6, 7, 8, 9, 10, 11, 12, 13, 14, 15, 20, 25, 35, 48, 49, 50, 51] (evs ?_)
      all_goals (try with_reducible (repeat' (first | apply And.intro | intro _)))
      all_goals (try (first | with_reducible refine wa_id ?_ | exact True.intro | omega | (rw [pxK_len hK]; omega) | (have := mask_len ps rule r; omega)))
      refine V_cond (evs ?_)
      refine ⟨fun hc => ?_, fun hc => ?_⟩
      · refine WA_seq (x := (fcd Try.f21 [1, 1, 1, 1, 0, 1, 0, 0])) (y := (fcd Try.f21 [1, 1, 1, 1, 0, 1, 0, 1])) ?_
        refine V_regionX Γ Δ [31] [0, 1, 2, 3, 6, 7, 8, 9, 10, 11, 12, 13, 14, 15, 20, 25, 35, 48, 49, 50, 51] (evs ?_)
        all_goals (try with_reducible (repeat' (first | apply And.intro | intro _)))
        all_goals (try (first | with_reducible refine wa_id ?_ | exact True.intro | omega | (rw [pxK_len hK]; omega) | (have := mask_len ps rule r; omega)))
        refine V_ret (evs ?_)
        first | exact ik0 _ (pe1 hc) | exact ik0 _ (pe2 ‹_› hc) | exact ik0 _ (pe3 ‹_› ‹_› hc) | exact ikl _ (pxK_len hK).symm (pe5 ‹_› ‹_› ‹_› hc)
      · refine WA_skip ?_
        refine WA_seq (x := (fcd Try.f21 [1, 1, 1, 1, 1, 0])) (y := (fcd Try.f21 [1, 1, 1, 1, 1, 1])) ?_
        refine V_draw Γ [31] [0, 1, 2, 3, 6, 7, 8, 9, 10, 11, 12, 13, 14, 15, 20, 25, 35, 48, 49, 50, 51] mixed (by kernel_rfl) (evs ?_)
        have hl := mask_len ps rule r
        all_goals (try with_reducible (repeat' (first | apply And.intro | intro _)))
        all_goals (try (first | with_reducible refine wa_id ?_ | exact True.intro | omega | (rw [pxK_len hK]; omega) | (have := mask_len ps rule r; omega)))
        refine WA_seq (x := (fcd Try.f21 [1, 1, 1, 1, 1, 1, 0])) (y := (fcd Try.f21 [1, 1, 1, 1, 1, 1, 1])) ?_
        refine WA_seq (x := (fcd Try.f21 [1, 1, 1, 1, 1, 1, 0, 0])) (y := (fcd Try.f21 [1, 1, 1, 1, 1, 1, 0, 1])) ?_
        refine V_regionX Γ Δ [31] [0, 1, 2, 3, 6, 7, 8, 9, 10, 11, 12, 13, 14, 15, 20, 25, 35, 48, 49, 50, 51] (evs ?_)
        all_goals (try with_reducible (repeat' (first | apply And.intro | intro _)))
        all_goals (try (first | with_reducible refine wa_id ?_ | exact True.intro | omega | (rw [pxK_len hK]; omega) | (have := mask_len ps rule r; omega)))
        refine WA_block (c := (fcd Try.f21 [1, 1, 1, 1, 1, 1, 0, 1, 0])) ?_
        refine V_loop (c := (fcd Try.f21 [1, 1, 1, 1, 1, 1, 0, 1, 0, 0])) (α := Nat) [14, 15, 50, 51] [45, 16000, 16001, 16002, 16003] (fun k => [(50, .dat (.i (k : Int)))]) (fun k => [(45, some (true, .arr 40 4 ((pxK (maskR ps rule r).v c k).map pxC)))]) (fun k => k ≤ (maskR ps rule r).v.length) (fun k => (maskR ps rule r).v.length - k) 0 [] ?_ (evs ?_) ?_
        · exact Nat.zero_le _
        · (try with_reducible (repeat' (first | apply And.intro | intro _)))
          all_goals (first | exact True.intro | omega | (first | (rw [← pxK_0]) | rfl))
        · intro k hK
          refine WA_seq (x := (fcd Try.f21 [1, 1, 1, 1, 1, 1, 0, 1, 0, 0, 0])) (y := (fcd Try.f21 [1, 1, 1, 1, 1, 1, 0, 1, 0, 0, 1])) ?_
          refine V_regionX Γ Δ [31] [0, 1, 2, 3, 6, 7, 8, 9, 10, 11, 12, 13, 14, 15, 20, 25, 35, 48, 49, 50, 51] (evs ?_)
          all_goals (try with_reducible (repeat' (first | apply And.intro | intro _)))
          all_goals (try (first | with_reducible refine wa_id ?_ | exact True.intro | omega | (rw [pxK_len hK]; omega) | (have := mask_len ps rule r; omega)))
          refine WA_seq (x := (fcd Try.f21 [1, 1, 1, 1, 1, 1, 0, 1, 0, 0, 1, 0])) (y := (fcd Try.f21 [1, 1, 1, 1, 1, 1, 0, 1, 0, 0, 1, 1])) ?_
          refine V_cond (evs ?_)
          refine ⟨fun hc => ?_, fun hc => ?_⟩
          · refine WA_skip ?_
            refine WA_seq (x := (fcd Try.f21 [1, 1, 1, 1, 1, 1, 0, 1, 0, 0, 1, 1, 0])) (y := (fcd Try.f21 [1, 1, 1, 1, 1, 1, 0, 1, 0, 0, 1, 1, 1])) ?_
            refine WA_block (c := (fcd Try.f21 [1, 1, 1, 1, 1, 1, 0, 1, 0, 0, 1, 1, 0, 0])) ?_
            refine WA_seq (x := (fcd Try.f21 [1, 1, 1, 1, 1, 1, 0, 1, 0, 0, 1, 1, 0, 0, 0])) (y := (fcd Try.f21 [1, 1, 1, 1, 1, 1, 0, 1, 0, 0, 1, 1, 0, 0, 1])) ?_
            refine V_regionX Γ Δ [31] [0, 1, 2, 3, 6, 7, 8, 9, 10, 11, 12, 13, 14, 15, 20, 25, 35, 48, 49, 50, 51] (evs ?_)
            all_goals (try with_reducible (repeat' (first | apply And.intro | intro _)))
            all_goals (try (first | with_reducible refine wa_id ?_ | exact True.intro | omega | (rw [pxK_len hK]; omega) | (have := mask_len ps rule r; omega)))
            refine V_draw Γ [31] [0, 1, 2, 3, 6, 7, 8, 9, 10, 11, 12, 13, 14, 15, 20, 25, 35, 48, 49, 50, 51] mixed (by kernel_rfl) (evs ?_)
            all_goals (try with_reducible (repeat' (first | apply And.intro | intro _)))
            all_goals (try (first | with_reducible refine wa_id ?_ | exact True.intro | exact pfade_fn _ _ | omega | (rw [pxK_len hK]; omega) | (have := mask_len ps rule r; omega)))
            refine V_regionX Γ Δ [31] [0, 1, 2, 3, 6, 7, 8, 9, 10, 11, 12, 13, 14, 15, 20, 25, 35, 48, 49, 50, 51] (evs ?_)
            all_goals (try with_reducible (repeat' (first | apply And.intro | intro _)))
            all_goals (try (first | with_reducible refine wa_id ?_ | exact True.intro | omega | (rw [pxK_len hK]; omega) | (have := mask_len ps rule r; omega)))
            refine V_next [] (k + 1) (evs ?_) ?_ ?_
            all_goals (try with_reducible (repeat' (first | apply And.intro | intro _)))
            all_goals (first | exact True.intro | omega | (first | exact w64l (n := 65536) (by omega) (by omega) | (rw [pxK_set (by omega)])))
          · refine V_exit (evs ?_)
            refine WA_seq (x := (fcd Try.f21 [1, 1, 1, 1, 1, 1, 1, 0])) (y := (fcd Try.f21 [1, 1, 1, 1, 1, 1, 1, 1])) ?_
            refine V_regionX Γ Δ [31] [0, 1, 2, 3, 6, 7, 8, 9, 10, 11, 12, 13, 14, 15, 20, 25, 35, 48, 49, 50, 51] (evs ?_)
            all_goals (try with_reducible (repeat' (first | apply And.intro | intro _)))
            all_goals (try (first | with_reducible refine wa_id ?_ | exact True.intro | omega | (rw [pxK_len hK]; omega) | (have := mask_len ps rule r; omega)))
            refine V_ret (evs ?_)
            first | exact ik0 _ (pe1 hc) | exact ik0 _ (pe2 ‹_› hc) | exact ik0 _ (pe3 ‹_› ‹_› hc) | exact ikl _ (pxK_len hK).symm (pe5 ‹_› ‹_› ‹_› hc)

/-- imageeditor/imageeditorref20.Paint -/
theorem rpaint_fn (ps : List (List Pt)) (rule : Int) (c : Px) (r : Rc) : Eng.Fn Try.prog 22 [.sl 1 (ps.map plyC), .i rule, pxD c, rcD r] (.tup [.agg [.dat (.i (paintR ps rule c r).w), .dat (.i (paintR ps rule c r).h), .own 40 4 ((paintR ps rule c r).p.map pxC)], .dat (.i (paintE ps rule c r))]) := by
  refine Eng.Fn.by (fn := Try.f22) 62 [.cell 8 43, .tmp 9] Try.func22 rfl Try.ntmps22 rfl (by simp) fun w0 => ?_
  refine WA_seq (x := (fcd Try.f22 [0])) (y := (fcd Try.f22 [1])) ?_
  refine V_regionX Γ Δ [30, 31, 32] [0, 1, 2, 3, 6, 7, 8, 9, 10, 11, 12, 13, 14, 19, 24, 34, 46] (evs ?_)
  all_goals (try with_reducible (repeat' (first | apply And.intro | intro _)))
  all_goals (try (first | with_reducible refine wa_id ?_ | exact True.intro | omega | (simp only [List.length_take]; omega) | (have := mask_len ps rule r; omega)))
  refine WA_seq (x := (fcd Try.f22 [1, 0])) (y := (fcd Try.f22 [1, 1])) ?_
  refine WA_seq (x := (fcd Try.f22 [1, 0, 0])) (y := (fcd Try.f22 [1, 0, 1])) ?_
  refine V_regionX Γ Δ [30, 31, 32] [0, 1, 2, 3, 6, 7, 8, 9, 10, 11, 12, 13, 14, 19, 24, 34, 46] (evs ?_)
  all_goals (try with_reducible (repeat' (first | apply And.intro | intro _)))
  all_goals (try (first | with_reducible refine wa_id ?_ | exact True.intro | exact rcheck_fn _ _ | omega | (simp only [List.length_take]; omega) | (have := mask_len ps rule r; omega)))
  refine WA_seq (x := (fcd Try.f22 [1, 0, 1, 0])) (y := (fcd Try.f22 [1, 0, 1, 1])) ?_
  refine V_regionX Γ Δ [30, 31, 32] [0, 1, 2, 3, 6, 7, 8, 9, 10, 11, 12, 13, 14, 19, 24, 34, 46] (evs ?_)
  all_goals (try with_reducible (repeat' (first | apply And.intro | intro _)))
  all_goals (try (first | with_reducible refine wa_id ?_ | exact True.intro | omega | (simp only [List.length_take]; omega) | (have := mask_len ps rule r; omega)))
  refine V_cond (evs ?_)
  refine ⟨fun hc => ?_, fun hc => ?_⟩
  · refine WA_seq (x := (fcd Try.f22 [1, 0, 1, 1, 0, 0])) (y := (fcd Try.f22 [1, 0, 1, 1, 0, 1])) ?_
    refine V_regionX Γ Δ [30, 31, 32] [0, 1, 2, 3, 6, 7, 8, 9, 10, 11, 12, 13, 14, 19, 24, 34, 46] (evs ?_)
    all_goals (try with_reducible (repeat' (first | apply And.intro | intro _)))
    all_goals (try (first | with_reducible refine wa_id ?_ | exact True.intro | omega | (simp only [List.length_take]; omega) | (have := mask_len ps rule r; omega)))
    refine V_ret (evs ?_)
    first | exact ik0 _ (pe1 hc) | exact ik0 _ (pe2 ‹_› hc) | exact ik0 _ (pe3 ‹_› ‹_› hc) | exact ik _ (pe6 ‹_› ‹_› ‹_› hc) | exact ikl _ (by simp) (pe6 ‹_› ‹_› ‹_› hc)
  · refine WA_skip ?_
    refine WA_seq (x := (fcd Try.f22 [1, 1, 0])) (y := (fcd Try.f22 [1, 1, 1])) ?_
    refine WA_seq (x := (fcd Try.f22 [1, 1, 0, 0])) (y := (fcd Try.f22 [1, 1, 0, 1])) ?_
    refine V_regionX Γ Δ [30, 31, 32] [0, 1, 2, 3, 6, 7, 8, 9, 10, 11, 12, 13, 14, 19, 24, 34, 46] (evs ?_)
    all_goals (try with_reducible (repeat' (first | apply And.intro | intro _)))
    all_goals (try (first | with_reducible refine wa_id ?_ | exact True.intro | exact rvalid6_fn _ | omega | (simp only [List.length_take]; omega) | (have := mask_len ps rule r; omega)))
    refine V_cond (evs ?_)
    refine ⟨fun hc => ?_, fun hc => ?_⟩
    · refine WA_seq (x := (fcd Try.f22 [1, 1, 0, 1, 0, 0])) (y := (fcd Try.f22 [1, 1, 0, 1, 0, 1])) ?_
      refine V_regionX Γ Δ [30, 31, 32] [0, 1, 2, 3, 6, 7, 8, 9, 10, 11, 12, 13, 14, 19, 24, 34, 46] (evs ?_)
      all_goals (try with_reducible (repeat' (first | apply And.intro | intro _)))
      all_goals (try (first | with_reducible refine wa_id ?_ | exact True.intro | omega | (simp only [List.length_take]; omega) | (have := mask_len ps rule r; omega)))
      refine V_ret (evs ?_)
      first | exact ik0 _ (pe1 hc) | exact ik0 _ (pe2 ‹_› hc) | exact ik0 _ (pe3 ‹_› ‹_› hc) | exact ik _ (pe6 ‹_› ‹_› ‹_› hc) | exact ikl _ (by simp) (pe6 ‹_› ‹_› ‹_› hc)
    · refine WA_skip ?_
      refine WA_seq (x := (fcd Try.f22 [1, 1, 1, 0])) (y := (fcd Try.f22 [1, 1, 1, 1])) ?_
      refine V_regionX Γ Δ [30, 31, 32] [0, 1, 2, 3, 6, 7, 8, 9, 10, 11, 12, 13, 14, 19, 24, 34, 46] (evs ?_)
      all_goals (try with_reducible (repeat' (first | apply And.intro | intro _)))
      all_goals (try (first | with_reducible refine wa_id ?_ | exact True.intro | exact rmask_fn _ _ ⟨_, _, _, _⟩ | omega | (simp only [List.length_take]; omega) | (have := mask_len ps rule r; omega)))
      refine WA_seq (x := (fcd Try.f22 [1, 1, 1, 1, 0])) (y := (fcd Try.f22 [1, 1, 1, 1, 1])) ?_
      refine WA_seq (x := (fcd Try.f22 [1, 1, 1, 1, 0, 0])) (y := (fcd Try.f22 [1, 1, 1, 1, 0, 1])) ?_
      refine V_regionX Γ Δ [30, 31, 32] [0, 1, 2, 3, 6, 7, 8, 9, 10, 11, 12, 13, 14, 19, 24, 34, 46] (evs ?_)
      all_goals (try with_reducible (repeat' (first | apply And.intro | intro _)))
      all_goals (try (first | with_reducible refine wa_id ?_ | exact True.intro | omega | (simp only [List.length_take]; omega) | (have := mask_len ps rule r; omega)))
      refine V_cond (evs ?_)
      refine ⟨fun hc => ?_, fun hc => ?_⟩
      · refine WA_seq (x := (fcd Try.f22 [1, 1, 1, 1, 0, 1, 0, 0])) (y := (fcd Try.f22 [1, 1, 1, 1, 0, 1, 0, 1])) ?_
        refine V_regionX Γ Δ [30, 31, 32] [0, 1, 2, 3, 6, 7, 8, 9, 10, 11, 12, 13, 14, 19, 24, 34, 46] (evs ?_)
        all_goals (try with_reducible (repeat' (first | apply And.intro | intro _)))
        all_goals (try (first | with_reducible refine wa_id ?_ | exact True.intro | omega | (simp only [List.length_take]; omega) | (have := mask_len ps rule r; omega)))
        refine V_ret (evs ?_)
        first | exact ik0 _ (pe1 hc) | exact ik0 _ (pe2 ‹_› hc) | exact ik0 _ (pe3 ‹_› ‹_› hc) | exact ik _ (pe6 ‹_› ‹_› ‹_› hc) | exact ikl _ (by simp) (pe6 ‹_› ‹_› ‹_› hc)
      · refine WA_skip ?_
        refine WA_seq (x := (fcd Try.f22 [1, 1, 1, 1, 1, 0])) (y := (fcd Try.f22 [1, 1, 1, 1, 1, 1])) ?_
        refine V_regionX Γ Δ [30, 31, 32] [0, 1, 2, 3, 6, 7, 8, 9, 10, 11, 12, 13, 14, 19, 24, 34, 46] (evs ?_)
        have hl := mask_len ps rule r
        all_goals (try with_reducible (repeat' (first | apply And.intro | intro _)))
        all_goals (try (first | with_reducible refine wa_id ?_ | exact True.intro | omega | (simp only [List.length_take]; omega) | (have := mask_len ps rule r; omega)))
        refine WA_seq (x := (fcd Try.f22 [1, 1, 1, 1, 1, 1, 0])) (y := (fcd Try.f22 [1, 1, 1, 1, 1, 1, 1])) ?_
        refine WA_seq (x := (fcd Try.f22 [1, 1, 1, 1, 1, 1, 0, 0])) (y := (fcd Try.f22 [1, 1, 1, 1, 1, 1, 0, 1])) ?_
        refine V_regionX Γ Δ [30, 31, 32] [0, 1, 2, 3, 6, 7, 8, 9, 10, 11, 12, 13, 14, 19, 24, 34, 46] (evs ?_)
        all_goals (try with_reducible (repeat' (first | apply And.intro | intro _)))
        all_goals (try (first | with_reducible refine wa_id ?_ | exact True.intro | omega | (simp only [List.length_take]; omega) | (have := mask_len ps rule r; omega)))
        refine WA_block (c := (fcd Try.f22 [1, 1, 1, 1, 1, 1, 0, 1, 0])) ?_
        refine V_loop (c := (fcd Try.f22 [1, 1, 1, 1, 1, 1, 0, 1, 0, 0])) (α := Nat) [14, 46] [13, 58, 59, 15700, 15701, 15702, 15703] (fun k => [(14, .dat (.i (k : Int)))]) (fun k => [(20000, some (true, .arr 40 4 ((((maskR ps rule r).v.take k).map (fadeP c)).map pxC))), (13, some (true, .box 43 [.dat (.i (maskR ps rule r).w), .dat (.i (maskR ps rule r).h), .vw 20000 0 ((((maskR ps rule r).v.take k).map (fadeP c)).length) 4]))]) (fun k => k ≤ (maskR ps rule r).v.length) (fun k => (maskR ps rule r).v.length - k) 0 [(20000, none)] ?_ (evs ?_) ?_
        · exact Nat.zero_le _
        · (try with_reducible (repeat' (first | apply And.intro | intro _)))
          all_goals (first | exact True.intro | omega | (first | rfl | simp))
        · intro k hK
          refine WA_seq (x := (fcd Try.f22 [1, 1, 1, 1, 1, 1, 0, 1, 0, 0, 0])) (y := (fcd Try.f22 [1, 1, 1, 1, 1, 1, 0, 1, 0, 0, 1])) ?_
          refine WA_seq (x := (fcd Try.f22 [1, 1, 1, 1, 1, 1, 0, 1, 0, 0, 0, 0])) (y := (fcd Try.f22 [1, 1, 1, 1, 1, 1, 0, 1, 0, 0, 0, 1])) ?_
          refine V_regionX Γ Δ [30, 31, 32] [0, 1, 2, 3, 6, 7, 8, 9, 10, 11, 12, 13, 14, 19, 24, 34, 46] (evs ?_)
          all_goals (try with_reducible (repeat' (first | apply And.intro | intro _)))
          all_goals (try (first | with_reducible refine wa_id ?_ | exact True.intro | omega | (simp only [List.length_take]; omega) | (have := mask_len ps rule r; omega)))
          refine V_cond (evs ?_)
          refine ⟨fun hc => ?_, fun hc => ?_⟩
          · refine WA_skip ?_
            refine WA_seq (x := (fcd Try.f22 [1, 1, 1, 1, 1, 1, 0, 1, 0, 0, 1, 0])) (y := (fcd Try.f22 [1, 1, 1, 1, 1, 1, 0, 1, 0, 0, 1, 1])) ?_
            refine WA_block (c := (fcd Try.f22 [1, 1, 1, 1, 1, 1, 0, 1, 0, 0, 1, 0, 0])) ?_
            refine V_draw Γ [30, 31, 32] [0, 1, 2, 3, 6, 7, 8, 9, 10, 11, 12, 13, 14, 19, 24, 34, 46] mixed (by kernel_rfl) (evs ?_)
            all_goals (try with_reducible (repeat' (first | apply And.intro | intro _)))
            all_goals (try (first | with_reducible refine wa_id ?_ | exact True.intro | exact rfade_fn _ _ | omega | (simp only [List.length_take]; omega) | (have := mask_len ps rule r; omega)))
            refine V_regionX Γ Δ [30, 31, 32] [0, 1, 2, 3, 6, 7, 8, 9, 10, 11, 12, 13, 14, 19, 24, 34, 46] (evs ?_)
            all_goals (try with_reducible (repeat' (first | apply And.intro | intro _)))
            all_goals (try (first | with_reducible refine wa_id ?_ | exact True.intro | omega | (simp only [List.length_take]; omega) | (have := mask_len ps rule r; omega)))
            refine V_next [(20000, some 59)] (k + 1) (evs ?_) ?_ ?_
            all_goals (try with_reducible (repeat' (first | apply And.intro | intro _)))
            all_goals (first | exact True.intro | omega | (first | exact w64l (n := 65536) (by omega) (by omega) | exact px_app (by omega) | (simp only [List.length_take]; omega)))
          · refine V_exit (evs ?_)
            refine WA_seq (x := (fcd Try.f22 [1, 1, 1, 1, 1, 1, 1, 0])) (y := (fcd Try.f22 [1, 1, 1, 1, 1, 1, 1, 1])) ?_
            refine V_regionX Γ Δ [30, 31, 32] [0, 1, 2, 3, 6, 7, 8, 9, 10, 11, 12, 13, 14, 19, 24, 34, 46] (evs ?_)
            all_goals (try with_reducible (repeat' (first | apply And.intro | intro _)))
            all_goals (try (first | with_reducible refine wa_id ?_ | exact True.intro | omega | (simp only [List.length_take]; omega) | (have := mask_len ps rule r; omega)))
            refine V_ret (evs ?_)
            first | exact ik0 _ (pe1 hc) | exact ik0 _ (pe2 ‹_› hc) | exact ik0 _ (pe3 ‹_› ‹_› hc) | exact ik _ (pe6 ‹_› ‹_› ‹_› hc) | exact ikl _ (by simp) (pe6 ‹_› ‹_› ‹_› hc)

end Go.S20

