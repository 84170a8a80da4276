import Derived.Test.YtppghgoeibelkaaC2
import Derived.Test.YtppghgoeibelkaaA1
set_option linter.unusedSimpArgs false
set_option linter.unusedVariables false
namespace Go.S23
open Go.RowKit Go.Proofs Go.Eng Go.Rect
/-- imageeditor/imageeditorref20.value -/
theorem value_fn (ps : List (List Pt)) (rule x y : Int) (hv : checkE ps 0 = 0) (hx : -1048576 ≤ x ∧ x < 1048576) (hy : -1048576 ≤ y ∧ y < 1048576) : Eng.Fn Try.prog 99 [.sl 1 (ps.map plyC), .i rule, .i x, .i y] (.dat (.i (valI ps rule x y))) := by
  refine Eng.Fn.by (fn := Try.f99) 36 [.tmp 8] Try.func99 rfl Try.ntmps99 rfl (by simp) fun w0 => ?_
  refine WA_seq (x := (fcd Try.f99 [0])) (y := (fcd Try.f99 [1])) ?_
  refine V_regionX Γ Δ [] [0, 1, 2, 3, 8, 9, 10, 11, 13, 17, 30] (evs ?_)
  all_goals (try with_reducible (repeat' (first | apply And.intro | intro _)))
  all_goals (try (first | with_reducible refine wa_id ?_ | exact True.intro | omega))
  refine WA_seq (x := (fcd Try.f99 [1, 0])) (y := (fcd Try.f99 [1, 1])) ?_
  refine V_regionX Γ Δ [] [0, 1, 2, 3, 8, 9, 10, 11, 13, 17, 30] (evs ?_)
  all_goals (try with_reducible (repeat' (first | apply And.intro | intro _)))
  all_goals (try (first | with_reducible refine wa_id ?_ | exact True.intro | omega))
  refine WA_seq (x := (fcd Try.f99 [1, 1, 0])) (y := (fcd Try.f99 [1, 1, 1])) ?_
  refine WA_seq (x := (fcd Try.f99 [1, 1, 0, 0])) (y := (fcd Try.f99 [1, 1, 0, 1])) ?_
  refine V_regionX Γ Δ [] [0, 1, 2, 3, 8, 9, 10, 11, 13, 17, 30] (evs ?_)
  all_goals (try with_reducible (repeat' (first | apply And.intro | intro _)))
  all_goals (try (first | with_reducible refine wa_id ?_ | exact True.intro | omega))
  refine WA_block (c := (fcd Try.f99 [1, 1, 0, 1, 0])) ?_
  refine V_loop (c := (fcd Try.f99 [1, 1, 0, 1, 0, 0])) (α := Nat) [9, 10, 11, 13, 17, 30] [13000, 13001, 13002, 13003] (fun j => [(10, .dat (.i (j : Int))), (9, .dat (.i (inC ps rule x y j 0)))]) (fun j => []) (fun j => j ≤ 16) (fun j => 16 - j) 0 [] ?_ (evs ?_) ?_
  · exact Nat.zero_le _
  · (try with_reducible (repeat' (first | apply And.intro | intro _)))
    all_goals (first | exact True.intro | omega | (exact ic0 _ _ _ _))
  · intro j hJ
    refine WA_seq (x := (fcd Try.f99 [1, 1, 0, 1, 0, 0, 0])) (y := (fcd Try.f99 [1, 1, 0, 1, 0, 0, 1])) ?_
    refine WA_seq (x := (fcd Try.f99 [1, 1, 0, 1, 0, 0, 0, 0])) (y := (fcd Try.f99 [1, 1, 0, 1, 0, 0, 0, 1])) ?_
    refine V_regionX Γ Δ [] [0, 1, 2, 3, 8, 9, 10, 11, 13, 17, 30] (evs ?_)
    all_goals (try with_reducible (repeat' (first | apply And.intro | intro _)))
    all_goals (try (first | with_reducible refine wa_id ?_ | exact True.intro | omega))
    refine V_cond (evs ?_)
    refine ⟨fun hc => ?_, fun hc => ?_⟩
    · refine WA_skip ?_
      refine WA_seq (x := (fcd Try.f99 [1, 1, 0, 1, 0, 0, 1, 0])) (y := (fcd Try.f99 [1, 1, 0, 1, 0, 0, 1, 1])) ?_
      refine WA_block (c := (fcd Try.f99 [1, 1, 0, 1, 0, 0, 1, 0, 0])) ?_
      refine WA_seq (x := (fcd Try.f99 [1, 1, 0, 1, 0, 0, 1, 0, 0, 0])) (y := (fcd Try.f99 [1, 1, 0, 1, 0, 0, 1, 0, 0, 1])) ?_
      refine V_regionX Γ Δ [] [0, 1, 2, 3, 8, 9, 10, 11, 13, 17, 30] (evs ?_)
      all_goals (try with_reducible (repeat' (first | apply And.intro | intro _)))
      all_goals (try (first | with_reducible refine wa_id ?_ | exact True.intro | omega))
      refine WA_block (c := (fcd Try.f99 [1, 1, 0, 1, 0, 0, 1, 0, 0, 1, 0])) ?_
      refine V_loop (c := (fcd Try.f99 [1, 1, 0, 1, 0, 0, 1, 0, 0, 1, 0, 0])) (α := Nat) [9, 11, 17, 30] [13000, 13001, 13002, 13003] (fun i => [(11, .dat (.i (i : Int))), (9, .dat (.i (inC ps rule x y j i)))]) (fun i => []) (fun i => i ≤ 16) (fun i => 16 - i) 0 [] ?_ (evs ?_) ?_
      · exact Nat.zero_le _
      · (try with_reducible (repeat' (first | apply And.intro | intro _)))
        all_goals (first | exact True.intro | omega | (rfl))
      · intro i hK
        refine WA_seq (x := (fcd Try.f99 [1, 1, 0, 1, 0, 0, 1, 0, 0, 1, 0, 0, 0])) (y := (fcd Try.f99 [1, 1, 0, 1, 0, 0, 1, 0, 0, 1, 0, 0, 1])) ?_
        refine WA_seq (x := (fcd Try.f99 [1, 1, 0, 1, 0, 0, 1, 0, 0, 1, 0, 0, 0, 0])) (y := (fcd Try.f99 [1, 1, 0, 1, 0, 0, 1, 0, 0, 1, 0, 0, 0, 1])) ?_
        refine V_regionX Γ Δ [] [0, 1, 2, 3, 8, 9, 10, 11, 13, 17, 30] (evs ?_)
        all_goals (try with_reducible (repeat' (first | apply And.intro | intro _)))
        all_goals (try (first | with_reducible refine wa_id ?_ | exact True.intro | omega))
        refine V_cond (evs ?_)
        refine ⟨fun hc => ?_, fun hc => ?_⟩
        · refine WA_skip ?_
          refine WA_seq (x := (fcd Try.f99 [1, 1, 0, 1, 0, 0, 1, 0, 0, 1, 0, 0, 1, 0])) (y := (fcd Try.f99 [1, 1, 0, 1, 0, 0, 1, 0, 0, 1, 0, 0, 1, 1])) ?_
          refine WA_block (c := (fcd Try.f99 [1, 1, 0, 1, 0, 0, 1, 0, 0, 1, 0, 0, 1, 0, 0])) ?_
          refine WA_seq (x := (fcd Try.f99 [1, 1, 0, 1, 0, 0, 1, 0, 0, 1, 0, 0, 1, 0, 0, 0])) (y := (fcd Try.f99 [1, 1, 0, 1, 0, 0, 1, 0, 0, 1, 0, 0, 1, 0, 0, 1])) ?_
          refine V_regionX Γ Δ [] [0, 1, 2, 3, 8, 9, 10, 11, 13, 17, 30] (evs ?_)
          simp (disch := omega) only [w64]
          all_goals (try with_reducible (repeat' (first | apply And.intro | intro _)))
          all_goals (try (first | with_reducible refine wa_id ?_ | exact True.intro | exact inside_fn _ _ _ _ hv (by unfold XOk; omega) (by unfold XOk; omega) | omega))
          refine V_cond (evs ?_)
          refine ⟨fun hc => ?_, fun hc => ?_⟩
          · refine V_regionX Γ Δ [] [0, 1, 2, 3, 8, 9, 10, 11, 13, 17, 30] (evs ?_)
            all_goals (try with_reducible (repeat' (first | apply And.intro | intro _)))
            all_goals (try (first | with_reducible refine wa_id ?_ | exact True.intro | omega))
            refine V_regionX Γ Δ [] [0, 1, 2, 3, 8, 9, 10, 11, 13, 17, 30] (evs ?_)
            all_goals (try with_reducible (repeat' (first | apply And.intro | intro _)))
            all_goals (try (first | with_reducible refine wa_id ?_ | exact True.intro | omega))
            refine V_next [] (i + 1) (evs ?_) ?_ ?_
            all_goals (try with_reducible (repeat' (first | apply And.intro | intro _)))
            all_goals (first | exact True.intro | omega | (first | exact w64l (n := 16) ‹(i : Int) < _› (by omega) | exact ic1 hJ hK hc | exact ic2 hc))
          · refine WA_skip ?_
            refine V_regionX Γ Δ [] [0, 1, 2, 3, 8, 9, 10, 11, 13, 17, 30] (evs ?_)
            all_goals (try with_reducible (repeat' (first | apply And.intro | intro _)))
            all_goals (try (first | with_reducible refine wa_id ?_ | exact True.intro | omega))
            refine V_next [] (i + 1) (evs ?_) ?_ ?_
            all_goals (try with_reducible (repeat' (first | apply And.intro | intro _)))
            all_goals (first | exact True.intro | omega | (first | exact w64l (n := 16) ‹(i : Int) < _› (by omega) | exact ic1 hJ hK hc | exact ic2 hc))
        · refine V_exit (evs ?_)
          refine V_regionX Γ Δ [] [0, 1, 2, 3, 8, 9, 10, 11, 13, 17, 30] (evs ?_)
          all_goals (try with_reducible (repeat' (first | apply And.intro | intro _)))
          all_goals (try (first | with_reducible refine wa_id ?_ | exact True.intro | omega))
          refine V_next [] (j + 1) (evs ?_) ?_ ?_
          all_goals (try with_reducible (repeat' (first | apply And.intro | intro _)))
          all_goals (first | exact True.intro | omega | (first | exact w64l (n := 16) ‹(j : Int) < _› (by omega) | exact ic3 hK hc))
    · refine V_exit (evs ?_)
      refine WA_seq (x := (fcd Try.f99 [1, 1, 1, 0])) (y := (fcd Try.f99 [1, 1, 1, 1])) ?_
      refine V_regionX Γ Δ [] [0, 1, 2, 3, 8, 9, 10, 11, 13, 17, 30] (evs ?_)
      simp only [(ic4 ‹j ≤ 16› hc).1]
      have := (ic4 (ps := ps) (rule := rule) (x := x) (y := y) ‹j ≤ 16› hc).2
      all_goals (try with_reducible (repeat' (first | apply And.intro | intro _)))
      all_goals (try (first | with_reducible refine wa_id ?_ | exact True.intro | exact rdiv_fn _ _ (by omega) (by omega) (by omega) (by omega) | omega))
      refine V_ret (evs ?_)
      rfl

/-- imageeditor/cover.area -/
theorem area20_fn (r : Rc) : Eng.Fn Try.prog 94 [rcD r] (.dat (.i (areaE r))) := by
  refine Eng.Fn.by (fn := Try.f94) 14 [.tmp 2] Try.func94 rfl Try.ntmps94 rfl (by simp) fun w0 => ?_
  refine WA_seq (x := (fcd Try.f94 [0])) (y := (fcd Try.f94 [1])) ?_
  refine V_regionX Γ Δ [] [0, 1, 2, 5, 13] (evs ?_)
  all_goals (try with_reducible (repeat' (first | apply And.intro | intro _)))
  all_goals (try (first | with_reducible refine wa_id ?_ | exact True.intro | omega))
  refine WA_seq (x := (fcd Try.f94 [1, 0])) (y := (fcd Try.f94 [1, 1])) ?_
  refine WA_seq (x := (fcd Try.f94 [1, 0, 0])) (y := (fcd Try.f94 [1, 0, 1])) ?_
  refine V_regionX Γ Δ [] [0, 1, 2, 5, 13] (evs ?_)
  all_goals (try with_reducible (repeat' (first | apply And.intro | intro _)))
  all_goals (try (first | with_reducible refine wa_id ?_ | exact True.intro | exact valid_fn _ | omega))
  refine V_cond (evs ?_)
  refine ⟨fun hc => ?_, fun hc => ?_⟩
  · refine WA_seq (x := (fcd Try.f94 [1, 0, 1, 0, 0])) (y := (fcd Try.f94 [1, 0, 1, 0, 1])) ?_
    refine V_regionX Γ Δ [] [0, 1, 2, 5, 13] (evs ?_)
    all_goals (try with_reducible (repeat' (first | apply And.intro | intro _)))
    all_goals (try (first | with_reducible refine wa_id ?_ | exact True.intro | omega))
    refine V_ret (evs ?_)
    first | exact ae1 hc | exact ae2 ‹_› hc | exact ae3 ‹_› hc
  · refine WA_skip ?_
    refine WA_seq (x := (fcd Try.f94 [1, 1, 0])) (y := (fcd Try.f94 [1, 1, 1])) ?_
    refine WA_seq (x := (fcd Try.f94 [1, 1, 0, 0])) (y := (fcd Try.f94 [1, 1, 0, 1])) ?_
    refine V_regionX Γ Δ [] [0, 1, 2, 5, 13] (evs ?_)
    all_goals (try with_reducible (repeat' (first | apply And.intro | intro _)))
    all_goals (try (first | with_reducible refine wa_id ?_ | exact True.intro | omega))
    refine V_cond (evs ?_)
    refine ⟨fun hc => ?_, fun hc => ?_⟩
    · refine WA_seq (x := (fcd Try.f94 [1, 1, 0, 1, 0, 0])) (y := (fcd Try.f94 [1, 1, 0, 1, 0, 1])) ?_
      refine V_regionX Γ Δ [] [0, 1, 2, 5, 13] (evs ?_)
      all_goals (try with_reducible (repeat' (first | apply And.intro | intro _)))
      all_goals (try (first | with_reducible refine wa_id ?_ | exact True.intro | omega))
      refine V_ret (evs ?_)
      first | exact ae1 hc | exact ae2 ‹_› hc | exact ae3 ‹_› hc
    · refine WA_skip ?_
      refine WA_seq (x := (fcd Try.f94 [1, 1, 1, 0])) (y := (fcd Try.f94 [1, 1, 1, 1])) ?_
      refine V_regionX Γ Δ [] [0, 1, 2, 5, 13] (evs ?_)
      all_goals (try with_reducible (repeat' (first | apply And.intro | intro _)))
      all_goals (try (first | with_reducible refine wa_id ?_ | exact True.intro | omega))
      refine V_ret (evs ?_)
      first | exact ae1 hc | exact ae2 ‹_› hc | exact ae3 ‹_› hc

end Go.S23

