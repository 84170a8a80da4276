import Derived.Test.YtnbeigcjhpldmaaR1
set_option linter.unusedSimpArgs false
set_option linter.unusedVariables false
set_option linter.unusedSimpArgs false
set_option linter.unusedVariables false
namespace Go.S03
open Go.RowKit Go.Proofs Go.Eng Go.Rect
set_option maxHeartbeats 4000000 in
set_option maxRecDepth 100000 in
/-- imageeditor/imageeditorref03.Box -/
theorem rbox_fn (a : List Rc) : Eng.Fn Try.prog 27 [.sl 4 (a.map rcC)] (.dat (rcD (boxL (els a)))) := by
  refine Eng.Fn.by (fn := Try.f27) 128 [.cell 2 33] Try.func27 rfl Try.ntmps27 rfl (by simp) fun w0 G0 => ?_
  refine WA_seq (x := (fcd Try.f27 [0])) (y := (fcd Try.f27 [1])) ?_
  refine V_regionX Γ Δ [] [0, 2, 3, 4, 5, 6, 7, 8, 13, 42, 43, 44, 52, 64, 82, 106] (evs ?_)
  all_goals (try with_reducible (repeat' (first | apply And.intro | intro _)))
  all_goals (try (first | with_reducible refine wa_id ?_ | exact True.intro | omega | exact part_fn _))
  refine WA_seq (x := (fcd Try.f27 [1, 0])) (y := (fcd Try.f27 [1, 1])) ?_
  refine V_regionX Γ Δ [] [0, 2, 3, 4, 5, 6, 7, 8, 13, 42, 43, 44, 52, 64, 82, 106] (evs ?_)
  all_goals (try with_reducible (repeat' (first | apply And.intro | intro _)))
  all_goals (try (first | with_reducible refine wa_id ?_ | exact True.intro | exact part_fn _ | omega | exact part_fn _))
  refine WA_seq (x := (fcd Try.f27 [1, 1, 0])) (y := (fcd Try.f27 [1, 1, 1])) ?_
  refine WA_seq (x := (fcd Try.f27 [1, 1, 0, 0])) (y := (fcd Try.f27 [1, 1, 0, 1])) ?_
  refine V_regionX Γ Δ [] [0, 2, 3, 4, 5, 6, 7, 8, 13, 42, 43, 44, 52, 64, 82, 106] (evs ?_)
  all_goals (try with_reducible (repeat' (first | apply And.intro | intro _)))
  all_goals (try (first | with_reducible refine wa_id ?_ | exact True.intro | omega | exact part_fn _))
  refine V_cond (evs ?_)
  refine ⟨fun hc => ?_, fun hc => ?_⟩
  · refine WA_seq (x := (fcd Try.f27 [1, 1, 0, 1, 0, 0])) (y := (fcd Try.f27 [1, 1, 0, 1, 0, 1])) ?_
    refine V_regionX Γ Δ [] [0, 2, 3, 4, 5, 6, 7, 8, 13, 42, 43, 44, 52, 64, 82, 106] (evs ?_)
    all_goals (try with_reducible (repeat' (first | apply And.intro | intro _)))
    all_goals (try (first | with_reducible refine wa_id ?_ | exact True.intro | omega | exact part_fn _))
    refine V_ret (evs ?_)
    first | exact True.intro | rfl | (rw [boxL, box_0 hc]; exact ⟨rfl, rfl, rfl, rfl⟩) | exact box_fin hbb.1
  · refine WA_skip ?_
    refine WA_seq (x := (fcd Try.f27 [1, 1, 1, 0])) (y := (fcd Try.f27 [1, 1, 1, 1])) ?_
    refine V_draw Γ [] [0, 2, 3, 4, 5, 6, 7, 8, 13, 42, 43, 44, 52, 64, 82, 106] mixed (by kernel_rfl) (evs ?_)
    have hq := wd_at (els_wd a) (k := 0) (by omega)
    (try simp (maxSteps := 10000000) (disch := omega) only [w64, toNs, toNp1])
    all_goals (try with_reducible (repeat' (first | apply And.intro | intro _)))
    all_goals (try (first | with_reducible refine wa_id ?_ | exact True.intro | omega | exact part_fn _))
    refine WA_seq (x := (fcd Try.f27 [1, 1, 1, 1, 0])) (y := (fcd Try.f27 [1, 1, 1, 1, 1])) ?_
    refine WA_seq (x := (fcd Try.f27 [1, 1, 1, 1, 0, 0])) (y := (fcd Try.f27 [1, 1, 1, 1, 0, 1])) ?_
    refine V_regionX Γ Δ [] [0, 2, 3, 4, 5, 6, 7, 8, 13, 42, 43, 44, 52, 64, 82, 106] (evs ?_)
    all_goals (try with_reducible (repeat' (first | apply And.intro | intro _)))
    all_goals (try (first | with_reducible refine wa_id ?_ | exact True.intro | omega | exact part_fn _))
    refine WA_block (c := (fcd Try.f27 [1, 1, 1, 1, 0, 1, 0])) ?_
    refine V_loop (c := (fcd Try.f27 [1, 1, 1, 1, 0, 1, 0, 0])) (α := Nat) [4, 5, 6, 7, 8, 43, 44, 52, 64, 82, 106] [] (fun k => [(43, .dat (.i (k : Int))), (4, .dat (.i (loK Rc.x (els a) k))), (5, .dat (.i (loK Rc.y (els a) k))), (6, .dat (.i (hiK rgtE (els a) k))), (7, .dat (.i (hiK botE (els a) k)))]) (fun k => []) (fun k => k ≤ (els a).length) (fun k => (els a).length - k) 0 [] ?_ (evs ?_) ?_
    · exact Nat.zero_le _
    · (try with_reducible (repeat' (first | apply And.intro | intro _)))
      all_goals (first | exact True.intro | omega | (first | rfl))
    · intro k hI
      refine WA_seq (x := (fcd Try.f27 [1, 1, 1, 1, 0, 1, 0, 0, 0])) (y := (fcd Try.f27 [1, 1, 1, 1, 0, 1, 0, 0, 1])) ?_
      refine V_regionX Γ Δ [] [0, 2, 3, 4, 5, 6, 7, 8, 13, 42, 43, 44, 52, 64, 82, 106] (evs ?_)
      all_goals (try with_reducible (repeat' (first | apply And.intro | intro _)))
      all_goals (try (first | with_reducible refine wa_id ?_ | exact True.intro | omega | exact part_fn _))
      refine WA_seq (x := (fcd Try.f27 [1, 1, 1, 1, 0, 1, 0, 0, 1, 0])) (y := (fcd Try.f27 [1, 1, 1, 1, 0, 1, 0, 0, 1, 1])) ?_
      refine V_cond (evs ?_)
      refine ⟨fun hc => ?_, fun hc => ?_⟩
      · refine WA_skip ?_
        refine WA_seq (x := (fcd Try.f27 [1, 1, 1, 1, 0, 1, 0, 0, 1, 1, 0])) (y := (fcd Try.f27 [1, 1, 1, 1, 0, 1, 0, 0, 1, 1, 1])) ?_
        refine WA_block (c := (fcd Try.f27 [1, 1, 1, 1, 0, 1, 0, 0, 1, 1, 0, 0])) ?_
        refine WA_seq (x := (fcd Try.f27 [1, 1, 1, 1, 0, 1, 0, 0, 1, 1, 0, 0, 0])) (y := (fcd Try.f27 [1, 1, 1, 1, 0, 1, 0, 0, 1, 1, 0, 0, 1])) ?_
        refine V_regionX Γ Δ [] [0, 2, 3, 4, 5, 6, 7, 8, 13, 42, 43, 44, 52, 64, 82, 106] (evs ?_)
        all_goals (try with_reducible (repeat' (first | apply And.intro | intro _)))
        all_goals (try (first | with_reducible refine wa_id ?_ | exact True.intro | omega | exact part_fn _))
        refine V_cut (x := (fcd Try.f27 [1, 1, 1, 1, 0, 1, 0, 0, 1, 1, 0, 0, 1, 0])) (y := (fcd Try.f27 [1, 1, 1, 1, 0, 1, 0, 0, 1, 1, 0, 0, 1, 1])) (α := Unit) [4, 52] [] (fun _ => [(4, .dat (.i (loK Rc.x (els a) (k + 1))))]) (fun _ => []) (fun _ => True) ?_ ?_
        · refine WA_seq (x := (fcd Try.f27 [1, 1, 1, 1, 0, 1, 0, 0, 1, 1, 0, 0, 1, 0, 0])) (y := (fcd Try.f27 [1, 1, 1, 1, 0, 1, 0, 0, 1, 1, 0, 0, 1, 0, 1])) ?_
          refine V_regionX Γ Δ [] [0, 2, 3, 4, 5, 6, 7, 8, 13, 42, 43, 44, 52, 64, 82, 106] (evs ?_)
          all_goals (try with_reducible (repeat' (first | apply And.intro | intro _)))
          all_goals (try (first | with_reducible refine wa_id ?_ | exact True.intro | omega | exact part_fn _))
          refine V_cond (evs ?_)
          refine ⟨fun hc => ?_, fun hc => ?_⟩
          · refine V_regionX Γ Δ [] [0, 2, 3, 4, 5, 6, 7, 8, 13, 42, 43, 44, 52, 64, 82, 106] (evs ?_)
            all_goals (try with_reducible (repeat' (first | apply And.intro | intro _)))
            all_goals (try (first | with_reducible refine wa_id ?_ | exact True.intro | omega | exact part_fn _))
            refine V_jn [] () (evs ?_) ?_
            all_goals (try with_reducible (repeat' (first | apply And.intro | intro _)))
            all_goals (first | exact True.intro | omega | (first | rfl | exact lo_nq hc | exact hi_nq hc | exact lo_y (f := Rc.x) hc | exact lo_y (f := Rc.y) hc | exact hi_y (f := rgtE) hc | exact hi_y (f := botE) hc | exact lo_n (f := Rc.x) hc | exact lo_n (f := Rc.y) hc))
          · refine WA_skip ?_
            refine V_jn [] () (evs ?_) ?_
            all_goals (try with_reducible (repeat' (first | apply And.intro | intro _)))
            all_goals (first | exact True.intro | omega | (first | rfl | exact lo_nq hc | exact hi_nq hc | exact lo_y (f := Rc.x) hc | exact lo_y (f := Rc.y) hc | exact hi_y (f := rgtE) hc | exact hi_y (f := botE) hc | exact lo_n (f := Rc.x) hc | exact lo_n (f := Rc.y) hc))
        · intro _ _
          refine V_cut (x := (fcd Try.f27 [1, 1, 1, 1, 0, 1, 0, 0, 1, 1, 0, 0, 1, 1, 0])) (y := (fcd Try.f27 [1, 1, 1, 1, 0, 1, 0, 0, 1, 1, 0, 0, 1, 1, 1])) (α := Unit) [5, 64] [] (fun _ => [(5, .dat (.i (loK Rc.y (els a) (k + 1))))]) (fun _ => []) (fun _ => True) ?_ ?_
          · refine WA_seq (x := (fcd Try.f27 [1, 1, 1, 1, 0, 1, 0, 0, 1, 1, 0, 0, 1, 1, 0, 0])) (y := (fcd Try.f27 [1, 1, 1, 1, 0, 1, 0, 0, 1, 1, 0, 0, 1, 1, 0, 1])) ?_
            refine V_regionX Γ Δ [] [0, 2, 3, 4, 5, 6, 7, 8, 13, 42, 43, 44, 52, 64, 82, 106] (evs ?_)
            all_goals (try with_reducible (repeat' (first | apply And.intro | intro _)))
            all_goals (try (first | with_reducible refine wa_id ?_ | exact True.intro | omega | exact part_fn _))
            refine V_cond (evs ?_)
            refine ⟨fun hc => ?_, fun hc => ?_⟩
            · refine V_regionX Γ Δ [] [0, 2, 3, 4, 5, 6, 7, 8, 13, 42, 43, 44, 52, 64, 82, 106] (evs ?_)
              all_goals (try with_reducible (repeat' (first | apply And.intro | intro _)))
              all_goals (try (first | with_reducible refine wa_id ?_ | exact True.intro | omega | exact part_fn _))
              refine V_jn [] () (evs ?_) ?_
              all_goals (try with_reducible (repeat' (first | apply And.intro | intro _)))
              all_goals (first | exact True.intro | omega | (first | rfl | exact lo_nq hc | exact hi_nq hc | exact lo_y (f := Rc.x) hc | exact lo_y (f := Rc.y) hc | exact hi_y (f := rgtE) hc | exact hi_y (f := botE) hc | exact lo_n (f := Rc.x) hc | exact lo_n (f := Rc.y) hc))
            · refine WA_skip ?_
              refine V_jn [] () (evs ?_) ?_
              all_goals (try with_reducible (repeat' (first | apply And.intro | intro _)))
              all_goals (first | exact True.intro | omega | (first | rfl | exact lo_nq hc | exact hi_nq hc | exact lo_y (f := Rc.x) hc | exact lo_y (f := Rc.y) hc | exact hi_y (f := rgtE) hc | exact hi_y (f := botE) hc | exact lo_n (f := Rc.x) hc | exact lo_n (f := Rc.y) hc))
          · intro _ _
            refine V_cut (x := (fcd Try.f27 [1, 1, 1, 1, 0, 1, 0, 0, 1, 1, 0, 0, 1, 1, 1, 0])) (y := (fcd Try.f27 [1, 1, 1, 1, 0, 1, 0, 0, 1, 1, 0, 0, 1, 1, 1, 1])) (α := Unit) [6, 82] [] (fun _ => [(6, .dat (.i (hiK rgtE (els a) (k + 1))))]) (fun _ => []) (fun _ => True) ?_ ?_
            · refine WA_seq (x := (fcd Try.f27 [1, 1, 1, 1, 0, 1, 0, 0, 1, 1, 0, 0, 1, 1, 1, 0, 0])) (y := (fcd Try.f27 [1, 1, 1, 1, 0, 1, 0, 0, 1, 1, 0, 0, 1, 1, 1, 0, 1])) ?_
              refine V_draw Γ [] [0, 2, 3, 4, 5, 6, 7, 8, 13, 42, 43, 44, 52, 64, 82, 106] mixed (by kernel_rfl) (evs ?_)
              have hq := wd_at (els_wd a) ‹(k : Int) < _›
              (try simp (maxSteps := 10000000) (disch := omega) only [w64, toNs, toNp1])
              all_goals (try with_reducible (repeat' (first | apply And.intro | intro _)))
              all_goals (try (first | with_reducible refine wa_id ?_ | exact True.intro | omega | exact part_fn _))
              refine V_cond (evs ?_)
              refine ⟨fun hc => ?_, fun hc => ?_⟩
              · refine V_draw Γ [] [0, 2, 3, 4, 5, 6, 7, 8, 13, 42, 43, 44, 52, 64, 82, 106] mixed (by kernel_rfl) (evs ?_)
                have hq := wd_at (els_wd a) ‹(k : Int) < _›
                (try simp (maxSteps := 10000000) (disch := omega) only [w64, toNs, toNp1])
                all_goals (try with_reducible (repeat' (first | apply And.intro | intro _)))
                all_goals (try (first | with_reducible refine wa_id ?_ | exact True.intro | omega | exact part_fn _))
                refine V_jn [] () (evs ?_) ?_
                all_goals (try with_reducible (repeat' (first | apply And.intro | intro _)))
                all_goals (first | exact True.intro | omega | (first | rfl | exact lo_nq hc | exact hi_nq hc | exact lo_y (f := Rc.x) hc | exact lo_y (f := Rc.y) hc | exact hi_y (f := rgtE) hc | exact hi_y (f := botE) hc | exact lo_n (f := Rc.x) hc | exact lo_n (f := Rc.y) hc))
              · refine WA_skip ?_
                refine V_jn [] () (evs ?_) ?_
                all_goals (try with_reducible (repeat' (first | apply And.intro | intro _)))
                all_goals (first | exact True.intro | omega | (first | rfl | exact lo_nq hc | exact hi_nq hc | exact lo_y (f := Rc.x) hc | exact lo_y (f := Rc.y) hc | exact hi_y (f := rgtE) hc | exact hi_y (f := botE) hc | exact lo_n (f := Rc.x) hc | exact lo_n (f := Rc.y) hc))
            · intro _ _
              refine WA_seq (x := (fcd Try.f27 [1, 1, 1, 1, 0, 1, 0, 0, 1, 1, 0, 0, 1, 1, 1, 1, 0])) (y := (fcd Try.f27 [1, 1, 1, 1, 0, 1, 0, 0, 1, 1, 0, 0, 1, 1, 1, 1, 1])) ?_
              refine V_draw Γ [] [0, 2, 3, 4, 5, 6, 7, 8, 13, 42, 43, 44, 52, 64, 82, 106] mixed (by kernel_rfl) (evs ?_)
              have hq := wd_at (els_wd a) ‹(k : Int) < _›
              (try simp (maxSteps := 10000000) (disch := omega) only [w64, toNs, toNp1])
              all_goals (try with_reducible (repeat' (first | apply And.intro | intro _)))
              all_goals (try (first | with_reducible refine wa_id ?_ | exact True.intro | omega | exact part_fn _))
              refine V_cond (evs ?_)
              refine ⟨fun hc => ?_, fun hc => ?_⟩
              · refine V_draw Γ [] [0, 2, 3, 4, 5, 6, 7, 8, 13, 42, 43, 44, 52, 64, 82, 106] mixed (by kernel_rfl) (evs ?_)
                have hq := wd_at (els_wd a) ‹(k : Int) < _›
                (try simp (maxSteps := 10000000) (disch := omega) only [w64, toNs, toNp1])
                all_goals (try with_reducible (repeat' (first | apply And.intro | intro _)))
                all_goals (try (first | with_reducible refine wa_id ?_ | exact True.intro | omega | exact part_fn _))
                refine V_regionX Γ Δ [] [0, 2, 3, 4, 5, 6, 7, 8, 13, 42, 43, 44, 52, 64, 82, 106] (evs ?_)
                all_goals (try with_reducible (repeat' (first | apply And.intro | intro _)))
                all_goals (try (first | with_reducible refine wa_id ?_ | exact True.intro | omega | exact part_fn _))
                refine V_next [] (k + 1) (evs ?_) ?_ ?_
                all_goals (try with_reducible (repeat' (first | apply And.intro | intro _)))
                all_goals (first | exact True.intro | omega | (first | rfl | exact w64l (n := 256) (by have := els_len a; omega) (by omega) | exact hi_nq hc | exact hi_y (f := botE) hc))
              · refine WA_skip ?_
                refine V_regionX Γ Δ [] [0, 2, 3, 4, 5, 6, 7, 8, 13, 42, 43, 44, 52, 64, 82, 106] (evs ?_)
                all_goals (try with_reducible (repeat' (first | apply And.intro | intro _)))
                all_goals (try (first | with_reducible refine wa_id ?_ | exact True.intro | omega | exact part_fn _))
                refine V_next [] (k + 1) (evs ?_) ?_ ?_
                all_goals (try with_reducible (repeat' (first | apply And.intro | intro _)))
                all_goals (first | exact True.intro | omega | (first | rfl | exact w64l (n := 256) (by have := els_len a; omega) (by omega) | exact hi_nq hc | exact hi_y (f := botE) hc))
      · refine V_exit (evs ?_)
        refine WA_seq (x := (fcd Try.f27 [1, 1, 1, 1, 1, 0])) (y := (fcd Try.f27 [1, 1, 1, 1, 1, 1])) ?_
        refine V_regionX Γ Δ [] [0, 2, 3, 4, 5, 6, 7, 8, 13, 42, 43, 44, 52, 64, 82, 106] (evs ?_)
        have hbb := box_bd (els_wd a) ‹¬ ((els a).length : Int) = 0› hI hc
        (try simp (maxSteps := 10000000) (disch := omega) only [w64, toNs, toNp1])
        all_goals (try with_reducible (repeat' (first | apply And.intro | intro _)))
        all_goals (try (first | with_reducible refine wa_id ?_ | exact True.intro | omega | exact part_fn _))
        refine V_ret (evs ?_)
        first | exact True.intro | rfl | (rw [boxL, box_0 hc]; exact ⟨rfl, rfl, rfl, rfl⟩) | exact box_fin hbb.1

end Go.S03

