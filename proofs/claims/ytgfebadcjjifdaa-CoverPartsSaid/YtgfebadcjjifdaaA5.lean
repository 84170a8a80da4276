import Derived.Test.YtgfebadcjjifdaaA3
import Derived.Test.YtgfebadcjjifdaaLB
namespace Go.S20
open Go.RowKit Go.Proofs Go.Eng Go.Rect
/-- imageeditor/cover.Box -/
theorem cbox_fn (ps : List (List Pt)) : Eng.Fn Try.prog 14 [.sl 1 (ps.map plyC)] (.dat (rcD (boxR ps))) := by
  refine Eng.Fn.by (fn := Try.f14) 73 [.cell 2 27] Try.func14 rfl Try.ntmps14 rfl (by simp) fun w0 => ?_
  refine WA_seq (x := (fcd Try.f14 [0])) (y := (fcd Try.f14 [1])) ?_
  refine V_regionX Γ Δ [] [0, 2, 3, 4, 5, 6, 8, 10, 11, 12, 15, 17, 18, 19, 20, 23, 24, 25, 26, 60] (evs ?_)
  all_goals (try with_reducible (repeat' (first | apply And.intro | intro _)))
  all_goals (try (first | with_reducible refine wa_id ?_ | exact True.intro | omega))
  refine WA_seq (x := (fcd Try.f14 [1, 0])) (y := (fcd Try.f14 [1, 1])) ?_
  refine WA_seq (x := (fcd Try.f14 [1, 0, 0])) (y := (fcd Try.f14 [1, 0, 1])) ?_
  refine V_regionX Γ Δ [] [0, 2, 3, 4, 5, 6, 8, 10, 11, 12, 15, 17, 18, 19, 20, 23, 24, 25, 26, 60] (evs ?_)
  all_goals (try with_reducible (repeat' (first | apply And.intro | intro _)))
  all_goals (try (first | with_reducible refine wa_id ?_ | exact True.intro | exact ccheck_fn _ _ | omega))
  refine V_cond (evs ?_)
  refine ⟨fun hc => ?_, fun hc => ?_⟩
  · refine WA_seq (x := (fcd Try.f14 [1, 0, 1, 0, 0])) (y := (fcd Try.f14 [1, 0, 1, 0, 1])) ?_
    refine V_regionX Γ Δ [] [0, 2, 3, 4, 5, 6, 8, 10, 11, 12, 15, 17, 18, 19, 20, 23, 24, 25, 26, 60] (evs ?_)
    all_goals (try with_reducible (repeat' (first | apply And.intro | intro _)))
    all_goals (try (first | with_reducible refine wa_id ?_ | exact True.intro | omega))
    refine V_ret (evs ?_)
    first | exact fe (r := zR) (bx0 hc) | exact fe (r := zR) (bx1 ‹checkE ps 0 = 0› ‹(ps.length : Int) ≤ _› hc) | exact fe (bx2 ‹checkE ps 0 = 0› ‹(ps.length : Int) ≤ _› hc)
  · refine WA_skip ?_
    refine WA_seq (x := (fcd Try.f14 [1, 1, 0])) (y := (fcd Try.f14 [1, 1, 1])) ?_
    refine V_regionX Γ Δ [] [0, 2, 3, 4, 5, 6, 8, 10, 11, 12, 15, 17, 18, 19, 20, 23, 24, 25, 26, 60] (evs ?_)
    all_goals (try with_reducible (repeat' (first | apply And.intro | intro _)))
    all_goals (try (first | with_reducible refine wa_id ?_ | exact True.intro | omega))
    refine WA_seq (x := (fcd Try.f14 [1, 1, 1, 0])) (y := (fcd Try.f14 [1, 1, 1, 1])) ?_
    refine V_regionX Γ Δ [] [0, 2, 3, 4, 5, 6, 8, 10, 11, 12, 15, 17, 18, 19, 20, 23, 24, 25, 26, 60] (evs ?_)
    all_goals (try with_reducible (repeat' (first | apply And.intro | intro _)))
    all_goals (try (first | with_reducible refine wa_id ?_ | exact True.intro | omega))
    refine WA_seq (x := (fcd Try.f14 [1, 1, 1, 1, 0])) (y := (fcd Try.f14 [1, 1, 1, 1, 1])) ?_
    refine WA_seq (x := (fcd Try.f14 [1, 1, 1, 1, 0, 0])) (y := (fcd Try.f14 [1, 1, 1, 1, 0, 1])) ?_
    refine V_regionX Γ Δ [] [0, 2, 3, 4, 5, 6, 8, 10, 11, 12, 15, 17, 18, 19, 20, 23, 24, 25, 26, 60] (evs ?_)
    all_goals (try with_reducible (repeat' (first | apply And.intro | intro _)))
    all_goals (try (first | with_reducible refine wa_id ?_ | exact True.intro | omega))
    refine WA_block (c := (fcd Try.f14 [1, 1, 1, 1, 0, 1, 0])) ?_
    refine V_loop (c := (fcd Try.f14 [1, 1, 1, 1, 0, 1, 0, 0])) (α := Nat) [3, 4, 5, 6, 8, 10, 11, 12, 19, 20, 23, 24, 25, 26] [10, 13100, 13101, 13102, 13103, 13400, 13401, 13402, 13403] (fun j => [(19, .dat (.i (j : Int))), (3, .dat (.i (bK ps j 0).x0)), (4, .dat (.i (bK ps j 0).y0)), (5, .dat (.i (bK ps j 0).x1)), (6, .dat (.i (bK ps j 0).y1))]) (fun j => []) (fun j => j ≤ ps.length) (fun j => ps.length - j) 0 [] ?_ (evs ?_) ?_
    · exact Nat.zero_le _
    · (try with_reducible (repeat' (first | apply And.intro | intro _)))
      all_goals (first | exact True.intro | omega | (rfl))
    · intro j hJ
      refine WA_seq (x := (fcd Try.f14 [1, 1, 1, 1, 0, 1, 0, 0, 0])) (y := (fcd Try.f14 [1, 1, 1, 1, 0, 1, 0, 0, 1])) ?_
      refine V_regionX Γ Δ [] [0, 2, 3, 4, 5, 6, 8, 10, 11, 12, 15, 17, 18, 19, 20, 23, 24, 25, 26, 60] (evs ?_)
      all_goals (try with_reducible (repeat' (first | apply And.intro | intro _)))
      all_goals (try (first | with_reducible refine wa_id ?_ | exact True.intro | omega))
      refine WA_seq (x := (fcd Try.f14 [1, 1, 1, 1, 0, 1, 0, 0, 1, 0])) (y := (fcd Try.f14 [1, 1, 1, 1, 0, 1, 0, 0, 1, 1])) ?_
      refine V_cond (evs ?_)
      refine ⟨fun hc => ?_, fun hc => ?_⟩
      · refine WA_skip ?_
        refine WA_seq (x := (fcd Try.f14 [1, 1, 1, 1, 0, 1, 0, 0, 1, 1, 0])) (y := (fcd Try.f14 [1, 1, 1, 1, 0, 1, 0, 0, 1, 1, 1])) ?_
        refine WA_block (c := (fcd Try.f14 [1, 1, 1, 1, 0, 1, 0, 0, 1, 1, 0, 0])) ?_
        refine WA_seq (x := (fcd Try.f14 [1, 1, 1, 1, 0, 1, 0, 0, 1, 1, 0, 0, 0])) (y := (fcd Try.f14 [1, 1, 1, 1, 0, 1, 0, 0, 1, 1, 0, 0, 1])) ?_
        refine V_regionX Γ Δ [] [0, 2, 3, 4, 5, 6, 8, 10, 11, 12, 15, 17, 18, 19, 20, 23, 24, 25, 26, 60] (evs ?_)
        all_goals (try with_reducible (repeat' (first | apply And.intro | intro _)))
        all_goals (try (first | with_reducible refine wa_id ?_ | exact True.intro | omega))
        refine WA_seq (x := (fcd Try.f14 [1, 1, 1, 1, 0, 1, 0, 0, 1, 1, 0, 0, 1, 0])) (y := (fcd Try.f14 [1, 1, 1, 1, 0, 1, 0, 0, 1, 1, 0, 0, 1, 1])) ?_
        refine V_regionX Γ Δ [] [0, 2, 3, 4, 5, 6, 8, 10, 11, 12, 15, 17, 18, 19, 20, 23, 24, 25, 26, 60] (evs ?_)
        all_goals (try with_reducible (repeat' (first | apply And.intro | intro _)))
        all_goals (try (first | with_reducible refine wa_id ?_ | exact True.intro | omega))
        refine WA_block (c := (fcd Try.f14 [1, 1, 1, 1, 0, 1, 0, 0, 1, 1, 0, 0, 1, 1, 0])) ?_
        refine V_loop (c := (fcd Try.f14 [1, 1, 1, 1, 0, 1, 0, 0, 1, 1, 0, 0, 1, 1, 0, 0])) (α := Nat) [3, 4, 5, 6, 10, 11, 12, 25, 26] [10, 13100, 13101, 13102, 13103, 13400, 13401, 13402, 13403] (fun i => [(25, .dat (.i (i : Int))), (3, .dat (.i (bK ps j i).x0)), (4, .dat (.i (bK ps j i).y0)), (5, .dat (.i (bK ps j i).x1)), (6, .dat (.i (bK ps j i).y1))]) (fun i => []) (fun i => i ≤ (ps.getD j []).length) (fun i => (ps.getD j []).length - i) 0 [] ?_ (evs ?_) ?_
        · exact Nat.zero_le _
        · (try with_reducible (repeat' (first | apply And.intro | intro _)))
          all_goals (first | exact True.intro | omega | (rfl))
        · intro i hK
          refine WA_seq (x := (fcd Try.f14 [1, 1, 1, 1, 0, 1, 0, 0, 1, 1, 0, 0, 1, 1, 0, 0, 0])) (y := (fcd Try.f14 [1, 1, 1, 1, 0, 1, 0, 0, 1, 1, 0, 0, 1, 1, 0, 0, 1])) ?_
          refine V_regionX Γ Δ [] [0, 2, 3, 4, 5, 6, 8, 10, 11, 12, 15, 17, 18, 19, 20, 23, 24, 25, 26, 60] (evs ?_)
          all_goals (try with_reducible (repeat' (first | apply And.intro | intro _)))
          all_goals (try (first | with_reducible refine wa_id ?_ | exact True.intro | omega))
          refine WA_seq (x := (fcd Try.f14 [1, 1, 1, 1, 0, 1, 0, 0, 1, 1, 0, 0, 1, 1, 0, 0, 1, 0])) (y := (fcd Try.f14 [1, 1, 1, 1, 0, 1, 0, 0, 1, 1, 0, 0, 1, 1, 0, 0, 1, 1])) ?_
          refine V_cond (evs ?_)
          refine ⟨fun hc => ?_, fun hc => ?_⟩
          · refine WA_skip ?_
            refine WA_seq (x := (fcd Try.f14 [1, 1, 1, 1, 0, 1, 0, 0, 1, 1, 0, 0, 1, 1, 0, 0, 1, 1, 0])) (y := (fcd Try.f14 [1, 1, 1, 1, 0, 1, 0, 0, 1, 1, 0, 0, 1, 1, 0, 0, 1, 1, 1])) ?_
            refine WA_block (c := (fcd Try.f14 [1, 1, 1, 1, 0, 1, 0, 0, 1, 1, 0, 0, 1, 1, 0, 0, 1, 1, 0, 0])) ?_
            refine WA_seq (x := (fcd Try.f14 [1, 1, 1, 1, 0, 1, 0, 0, 1, 1, 0, 0, 1, 1, 0, 0, 1, 1, 0, 0, 0])) (y := (fcd Try.f14 [1, 1, 1, 1, 0, 1, 0, 0, 1, 1, 0, 0, 1, 1, 0, 0, 1, 1, 0, 0, 1])) ?_
            refine V_regionX Γ Δ [] [0, 2, 3, 4, 5, 6, 8, 10, 11, 12, 15, 17, 18, 19, 20, 23, 24, 25, 26, 60] (evs ?_)
            all_goals (try with_reducible (repeat' (first | apply And.intro | intro _)))
            all_goals (try (first | with_reducible refine wa_id ?_ | exact True.intro | omega))
            refine WA_seq (x := (fcd Try.f14 [1, 1, 1, 1, 0, 1, 0, 0, 1, 1, 0, 0, 1, 1, 0, 0, 1, 1, 0, 0, 1, 0])) (y := (fcd Try.f14 [1, 1, 1, 1, 0, 1, 0, 0, 1, 1, 0, 0, 1, 1, 0, 0, 1, 1, 0, 0, 1, 1])) ?_
            refine V_draw Γ [] [0, 2, 3, 4, 5, 6, 8, 10, 11, 12, 15, 17, 18, 19, 20, 23, 24, 25, 26, 60] mixed (by kernel_rfl) (evs ?_)
            have hp := pt_in ‹checkE ps 0 = 0› ‹(j : Int) < _› ‹(i : Int) < _›
            all_goals (try with_reducible (repeat' (first | apply And.intro | intro _)))
            all_goals (try (first | with_reducible refine wa_id ?_ | exact True.intro | exact floor_fn _ _ (by omega) (by omega) | omega))
            simp only [fl16]
            refine WA_seq (x := (fcd Try.f14 [1, 1, 1, 1, 0, 1, 0, 0, 1, 1, 0, 0, 1, 1, 0, 0, 1, 1, 0, 0, 1, 1, 0])) (y := (fcd Try.f14 [1, 1, 1, 1, 0, 1, 0, 0, 1, 1, 0, 0, 1, 1, 0, 0, 1, 1, 0, 0, 1, 1, 1])) ?_
            refine V_regionX Γ Δ [] [0, 2, 3, 4, 5, 6, 8, 10, 11, 12, 15, 17, 18, 19, 20, 23, 24, 25, 26, 60] (evs ?_)
            all_goals (try with_reducible (repeat' (first | apply And.intro | intro _)))
            all_goals (try (first | with_reducible refine wa_id ?_ | exact True.intro | omega))
            refine V_regionX Γ Δ [] [0, 2, 3, 4, 5, 6, 8, 10, 11, 12, 15, 17, 18, 19, 20, 23, 24, 25, 26, 60] (evs ?_)
            all_goals (try with_reducible (repeat' (first | apply And.intro | intro _)))
            all_goals (try (first | with_reducible refine wa_id ?_ | exact True.intro | omega))
            refine V_regionX Γ Δ [] [0, 2, 3, 4, 5, 6, 8, 10, 11, 12, 15, 17, 18, 19, 20, 23, 24, 25, 26, 60] (evs ?_)
            all_goals (try with_reducible (repeat' (first | apply And.intro | intro _)))
            all_goals (try (first | with_reducible refine wa_id ?_ | exact True.intro | omega))
            refine V_next [] (i + 1) (evs ?_) ?_ ?_
            all_goals (try with_reducible (repeat' (first | apply And.intro | intro _)))
            all_goals (first | exact True.intro | omega | (first | exact w64l ‹(i : Int) < _› ‹(ps.getD j []).length ≤ 281474976710656› | (rw [bK_next ‹(i : Int) < _›]; rfl)))
          · refine V_exit (evs ?_)
            refine V_regionX Γ Δ [] [0, 2, 3, 4, 5, 6, 8, 10, 11, 12, 15, 17, 18, 19, 20, 23, 24, 25, 26, 60] (evs ?_)
            all_goals (try with_reducible (repeat' (first | apply And.intro | intro _)))
            all_goals (try (first | with_reducible refine wa_id ?_ | exact True.intro | omega))
            refine V_next [] (j + 1) (evs ?_) ?_ ?_
            all_goals (try with_reducible (repeat' (first | apply And.intro | intro _)))
            all_goals (first | exact True.intro | omega | (first | exact w64l ‹(j : Int) < _› ‹ps.length ≤ 281474976710656› | (rw [bK_over ‹(j : Int) < _› hc])))
      · refine V_exit (evs ?_)
        refine WA_seq (x := (fcd Try.f14 [1, 1, 1, 1, 1, 0])) (y := (fcd Try.f14 [1, 1, 1, 1, 1, 1])) ?_
        refine V_regionX Γ Δ [] [0, 2, 3, 4, 5, 6, 8, 10, 11, 12, 15, 17, 18, 19, 20, 23, 24, 25, 26, 60] (evs ?_)
        all_goals (try with_reducible (repeat' (first | apply And.intro | intro _)))
        all_goals (try (first | with_reducible refine wa_id ?_ | exact True.intro | omega))
        refine WA_seq (x := (fcd Try.f14 [1, 1, 1, 1, 1, 1, 0])) (y := (fcd Try.f14 [1, 1, 1, 1, 1, 1, 1])) ?_
        refine WA_seq (x := (fcd Try.f14 [1, 1, 1, 1, 1, 1, 0, 0])) (y := (fcd Try.f14 [1, 1, 1, 1, 1, 1, 0, 1])) ?_
        refine V_regionX Γ Δ [] [0, 2, 3, 4, 5, 6, 8, 10, 11, 12, 15, 17, 18, 19, 20, 23, 24, 25, 26, 60] (evs ?_)
        all_goals (try with_reducible (repeat' (first | apply And.intro | intro _)))
        all_goals (try (first | with_reducible refine wa_id ?_ | exact True.intro | omega))
        refine V_cond (evs ?_)
        refine ⟨fun hc => ?_, fun hc => ?_⟩
        · refine WA_seq (x := (fcd Try.f14 [1, 1, 1, 1, 1, 1, 0, 1, 0, 0])) (y := (fcd Try.f14 [1, 1, 1, 1, 1, 1, 0, 1, 0, 1])) ?_
          refine V_regionX Γ Δ [] [0, 2, 3, 4, 5, 6, 8, 10, 11, 12, 15, 17, 18, 19, 20, 23, 24, 25, 26, 60] (evs ?_)
          all_goals (try with_reducible (repeat' (first | apply And.intro | intro _)))
          all_goals (try (first | with_reducible refine wa_id ?_ | exact True.intro | omega))
          refine V_ret (evs ?_)
          first | exact fe (r := zR) (bx0 hc) | exact fe (r := zR) (bx1 ‹checkE ps 0 = 0› ‹(ps.length : Int) ≤ _› hc) | exact fe (bx2 ‹checkE ps 0 = 0› ‹(ps.length : Int) ≤ _› hc)
        · refine WA_skip ?_
          refine WA_seq (x := (fcd Try.f14 [1, 1, 1, 1, 1, 1, 1, 0])) (y := (fcd Try.f14 [1, 1, 1, 1, 1, 1, 1, 1])) ?_
          refine V_regionX Γ Δ [] [0, 2, 3, 4, 5, 6, 8, 10, 11, 12, 15, 17, 18, 19, 20, 23, 24, 25, 26, 60] (evs ?_)
          all_goals (try with_reducible (repeat' (first | apply And.intro | intro _)))
          all_goals (try (first | with_reducible refine wa_id ?_ | exact True.intro | omega))
          refine V_ret (evs ?_)
          first | exact fe (r := zR) (bx0 hc) | exact fe (r := zR) (bx1 ‹checkE ps 0 = 0› ‹(ps.length : Int) ≤ _› hc) | exact fe (bx2 ‹checkE ps 0 = 0› ‹(ps.length : Int) ≤ _› hc)

set_option maxRecDepth 100000 in
/-- imageeditor/imageeditorref20.Box -/
theorem rbox_fn (ps : List (List Pt)) : Eng.Fn Try.prog 15 [.sl 1 (ps.map plyC)] (.dat (rcD (boxR ps))) := by
  refine Eng.Fn.by (fn := Try.f15) 93 [.cell 2 27] Try.func15 rfl Try.ntmps15 rfl (by simp) fun w0 => ?_
  refine WA_seq (x := (fcd Try.f15 [0])) (y := (fcd Try.f15 [1])) ?_
  refine V_regionX Γ Δ [] [0, 2, 3, 4, 5, 6, 7, 8, 9, 10, 11, 14, 19, 28, 49, 80] (evs ?_)
  all_goals (try with_reducible (repeat' (first | apply And.intro | intro _)))
  all_goals (try (first | with_reducible refine wa_id ?_ | exact True.intro | omega))
  refine WA_seq (x := (fcd Try.f15 [1, 0])) (y := (fcd Try.f15 [1, 1])) ?_
  refine WA_seq (x := (fcd Try.f15 [1, 0, 0])) (y := (fcd Try.f15 [1, 0, 1])) ?_
  refine V_regionX Γ Δ [] [0, 2, 3, 4, 5, 6, 7, 8, 9, 10, 11, 14, 19, 28, 49, 80] (evs ?_)
  all_goals (try with_reducible (repeat' (first | apply And.intro | intro _)))
  all_goals (try (first | with_reducible refine wa_id ?_ | exact True.intro | exact rcheck_fn _ _ | omega))
  refine V_cond (evs ?_)
  refine ⟨fun hc => ?_, fun hc => ?_⟩
  · refine WA_seq (x := (fcd Try.f15 [1, 0, 1, 0, 0])) (y := (fcd Try.f15 [1, 0, 1, 0, 1])) ?_
    refine V_regionX Γ Δ [] [0, 2, 3, 4, 5, 6, 7, 8, 9, 10, 11, 14, 19, 28, 49, 80] (evs ?_)
    all_goals (try with_reducible (repeat' (first | apply And.intro | intro _)))
    all_goals (try (first | with_reducible refine wa_id ?_ | exact True.intro | omega))
    refine V_ret (evs ?_)
    first | exact fe (r := zR) (bx0 hc) | exact fe (r := zR) (rbx1 ‹checkE ps 0 = 0› ‹(ps.length : Int) ≤ _› hc) | exact fe (rbx2 ‹checkE ps 0 = 0› ‹(ps.length : Int) ≤ _› hc)
  · refine WA_skip ?_
    refine WA_seq (x := (fcd Try.f15 [1, 1, 0])) (y := (fcd Try.f15 [1, 1, 1])) ?_
    refine V_regionX Γ Δ [] [0, 2, 3, 4, 5, 6, 7, 8, 9, 10, 11, 14, 19, 28, 49, 80] (evs ?_)
    all_goals (try with_reducible (repeat' (first | apply And.intro | intro _)))
    all_goals (try (first | with_reducible refine wa_id ?_ | exact True.intro | omega))
    refine WA_seq (x := (fcd Try.f15 [1, 1, 1, 0])) (y := (fcd Try.f15 [1, 1, 1, 1])) ?_
    refine V_regionX Γ Δ [] [0, 2, 3, 4, 5, 6, 7, 8, 9, 10, 11, 14, 19, 28, 49, 80] (evs ?_)
    all_goals (try with_reducible (repeat' (first | apply And.intro | intro _)))
    all_goals (try (first | with_reducible refine wa_id ?_ | exact True.intro | omega))
    refine WA_seq (x := (fcd Try.f15 [1, 1, 1, 1, 0])) (y := (fcd Try.f15 [1, 1, 1, 1, 1])) ?_
    refine V_regionX Γ Δ [] [0, 2, 3, 4, 5, 6, 7, 8, 9, 10, 11, 14, 19, 28, 49, 80] (evs ?_)
    all_goals (try with_reducible (repeat' (first | apply And.intro | intro _)))
    all_goals (try (first | with_reducible refine wa_id ?_ | exact True.intro | omega))
    refine WA_seq (x := (fcd Try.f15 [1, 1, 1, 1, 1, 0])) (y := (fcd Try.f15 [1, 1, 1, 1, 1, 1])) ?_
    refine V_regionX Γ Δ [] [0, 2, 3, 4, 5, 6, 7, 8, 9, 10, 11, 14, 19, 28, 49, 80] (evs ?_)
    all_goals (try with_reducible (repeat' (first | apply And.intro | intro _)))
    all_goals (try (first | with_reducible refine wa_id ?_ | exact True.intro | omega))
    refine WA_seq (x := (fcd Try.f15 [1, 1, 1, 1, 1, 1, 0])) (y := (fcd Try.f15 [1, 1, 1, 1, 1, 1, 1])) ?_
    refine V_regionX Γ Δ [] [0, 2, 3, 4, 5, 6, 7, 8, 9, 10, 11, 14, 19, 28, 49, 80] (evs ?_)
    all_goals (try with_reducible (repeat' (first | apply And.intro | intro _)))
    all_goals (try (first | with_reducible refine wa_id ?_ | exact True.intro | omega))
    refine WA_seq (x := (fcd Try.f15 [1, 1, 1, 1, 1, 1, 1, 0])) (y := (fcd Try.f15 [1, 1, 1, 1, 1, 1, 1, 1])) ?_
    refine WA_seq (x := (fcd Try.f15 [1, 1, 1, 1, 1, 1, 1, 0, 0])) (y := (fcd Try.f15 [1, 1, 1, 1, 1, 1, 1, 0, 1])) ?_
    refine V_regionX Γ Δ [] [0, 2, 3, 4, 5, 6, 7, 8, 9, 10, 11, 14, 19, 28, 49, 80] (evs ?_)
    all_goals (try with_reducible (repeat' (first | apply And.intro | intro _)))
    all_goals (try (first | with_reducible refine wa_id ?_ | exact True.intro | omega))
    refine WA_block (c := (fcd Try.f15 [1, 1, 1, 1, 1, 1, 1, 0, 1, 0])) ?_
    refine V_loop (c := (fcd Try.f15 [1, 1, 1, 1, 1, 1, 1, 0, 1, 0, 0])) (α := Nat) [3, 4, 5, 6, 7, 8, 9, 10, 11, 19, 28, 49] [13900, 13901, 13902, 13903, 14800, 14801, 14802, 14803] (fun j => [(8, .dat (.i (j : Int))), (3, .dat (.b (seenP ps j 0).isEmpty)), (4, .dat (.i (rb (seenP ps j 0)).x0)), (5, .dat (.i (rb (seenP ps j 0)).x1)), (6, .dat (.i (rb (seenP ps j 0)).y0)), (7, .dat (.i (rb (seenP ps j 0)).y1))]) (fun j => []) (fun j => j ≤ ps.length) (fun j => ps.length - j) 0 [] ?_ (evs ?_) ?_
    · exact Nat.zero_le _
    · (try with_reducible (repeat' (first | apply And.intro | intro _)))
      all_goals (first | exact True.intro | omega | (rfl))
    · intro j hJ
      refine WA_seq (x := (fcd Try.f15 [1, 1, 1, 1, 1, 1, 1, 0, 1, 0, 0, 0])) (y := (fcd Try.f15 [1, 1, 1, 1, 1, 1, 1, 0, 1, 0, 0, 1])) ?_
      refine WA_seq (x := (fcd Try.f15 [1, 1, 1, 1, 1, 1, 1, 0, 1, 0, 0, 0, 0])) (y := (fcd Try.f15 [1, 1, 1, 1, 1, 1, 1, 0, 1, 0, 0, 0, 1])) ?_
      refine V_regionX Γ Δ [] [0, 2, 3, 4, 5, 6, 7, 8, 9, 10, 11, 14, 19, 28, 49, 80] (evs ?_)
      all_goals (try with_reducible (repeat' (first | apply And.intro | intro _)))
      all_goals (try (first | with_reducible refine wa_id ?_ | exact True.intro | omega))
      refine V_cond (evs ?_)
      refine ⟨fun hc => ?_, fun hc => ?_⟩
      · refine WA_skip ?_
        refine WA_seq (x := (fcd Try.f15 [1, 1, 1, 1, 1, 1, 1, 0, 1, 0, 0, 1, 0])) (y := (fcd Try.f15 [1, 1, 1, 1, 1, 1, 1, 0, 1, 0, 0, 1, 1])) ?_
        refine WA_block (c := (fcd Try.f15 [1, 1, 1, 1, 1, 1, 1, 0, 1, 0, 0, 1, 0, 0])) ?_
        refine WA_seq (x := (fcd Try.f15 [1, 1, 1, 1, 1, 1, 1, 0, 1, 0, 0, 1, 0, 0, 0])) (y := (fcd Try.f15 [1, 1, 1, 1, 1, 1, 1, 0, 1, 0, 0, 1, 0, 0, 1])) ?_
        refine V_regionX Γ Δ [] [0, 2, 3, 4, 5, 6, 7, 8, 9, 10, 11, 14, 19, 28, 49, 80] (evs ?_)
        all_goals (try with_reducible (repeat' (first | apply And.intro | intro _)))
        all_goals (try (first | with_reducible refine wa_id ?_ | exact True.intro | omega))
        refine WA_block (c := (fcd Try.f15 [1, 1, 1, 1, 1, 1, 1, 0, 1, 0, 0, 1, 0, 0, 1, 0])) ?_
        refine V_loop (c := (fcd Try.f15 [1, 1, 1, 1, 1, 1, 1, 0, 1, 0, 0, 1, 0, 0, 1, 0, 0])) (α := Nat) [3, 4, 5, 6, 7, 9, 10, 11, 28, 49] [13900, 13901, 13902, 13903, 14800, 14801, 14802, 14803] (fun i => [(9, .dat (.i (i : Int))), (3, .dat (.b (seenP ps j i).isEmpty)), (4, .dat (.i (rb (seenP ps j i)).x0)), (5, .dat (.i (rb (seenP ps j i)).x1)), (6, .dat (.i (rb (seenP ps j i)).y0)), (7, .dat (.i (rb (seenP ps j i)).y1))]) (fun i => []) (fun i => i ≤ (ps.getD j []).length) (fun i => (ps.getD j []).length - i) 0 [] ?_ (evs ?_) ?_
        · exact Nat.zero_le _
        · (try with_reducible (repeat' (first | apply And.intro | intro _)))
          all_goals (first | exact True.intro | omega | (rfl))
        · intro i hK
          refine WA_seq (x := (fcd Try.f15 [1, 1, 1, 1, 1, 1, 1, 0, 1, 0, 0, 1, 0, 0, 1, 0, 0, 0])) (y := (fcd Try.f15 [1, 1, 1, 1, 1, 1, 1, 0, 1, 0, 0, 1, 0, 0, 1, 0, 0, 1])) ?_
          refine WA_seq (x := (fcd Try.f15 [1, 1, 1, 1, 1, 1, 1, 0, 1, 0, 0, 1, 0, 0, 1, 0, 0, 0, 0])) (y := (fcd Try.f15 [1, 1, 1, 1, 1, 1, 1, 0, 1, 0, 0, 1, 0, 0, 1, 0, 0, 0, 1])) ?_
          refine V_regionX Γ Δ [] [0, 2, 3, 4, 5, 6, 7, 8, 9, 10, 11, 14, 19, 28, 49, 80] (evs ?_)
          all_goals (try with_reducible (repeat' (first | apply And.intro | intro _)))
          all_goals (try (first | with_reducible refine wa_id ?_ | exact True.intro | omega))
          refine V_cond (evs ?_)
          refine ⟨fun hc => ?_, fun hc => ?_⟩
          · refine WA_skip ?_
            refine WA_seq (x := (fcd Try.f15 [1, 1, 1, 1, 1, 1, 1, 0, 1, 0, 0, 1, 0, 0, 1, 0, 0, 1, 0])) (y := (fcd Try.f15 [1, 1, 1, 1, 1, 1, 1, 0, 1, 0, 0, 1, 0, 0, 1, 0, 0, 1, 1])) ?_
            refine WA_block (c := (fcd Try.f15 [1, 1, 1, 1, 1, 1, 1, 0, 1, 0, 0, 1, 0, 0, 1, 0, 0, 1, 0, 0])) ?_
            refine WA_seq (x := (fcd Try.f15 [1, 1, 1, 1, 1, 1, 1, 0, 1, 0, 0, 1, 0, 0, 1, 0, 0, 1, 0, 0, 0])) (y := (fcd Try.f15 [1, 1, 1, 1, 1, 1, 1, 0, 1, 0, 0, 1, 0, 0, 1, 0, 0, 1, 0, 0, 1])) ?_
            refine V_regionX Γ Δ [] [0, 2, 3, 4, 5, 6, 7, 8, 9, 10, 11, 14, 19, 28, 49, 80] (evs ?_)
            have hp := pt_in ‹checkE ps 0 = 0› ‹(j : Int) < _› ‹(i : Int) < _›
            all_goals (try with_reducible (repeat' (first | apply And.intro | intro _)))
            all_goals (try (first | with_reducible refine wa_id ?_ | exact True.intro | exact rfloor_fn _ _ (by omega) (by omega) | omega))
            simp only [fl16]
            refine WA_seq (x := (fcd Try.f15 [1, 1, 1, 1, 1, 1, 1, 0, 1, 0, 0, 1, 0, 0, 1, 0, 0, 1, 0, 0, 1, 0])) (y := (fcd Try.f15 [1, 1, 1, 1, 1, 1, 1, 0, 1, 0, 0, 1, 0, 0, 1, 0, 0, 1, 0, 0, 1, 1])) ?_
            refine V_regionX Γ Δ [] [0, 2, 3, 4, 5, 6, 7, 8, 9, 10, 11, 14, 19, 28, 49, 80] (evs ?_)
            all_goals (try with_reducible (repeat' (first | apply And.intro | intro _)))
            all_goals (try (first | with_reducible refine wa_id ?_ | exact True.intro | exact rfloor_fn _ _ (by omega) (by omega) | omega))
            simp only [fl16]
            refine V_cut (x := (fcd Try.f15 [1, 1, 1, 1, 1, 1, 1, 0, 1, 0, 0, 1, 0, 0, 1, 0, 0, 1, 0, 0, 1, 1, 0])) (y := (fcd Try.f15 [1, 1, 1, 1, 1, 1, 1, 0, 1, 0, 0, 1, 0, 0, 1, 0, 0, 1, 0, 0, 1, 1, 1])) (α := Unit) [3, 4, 5, 6, 7, 49] [] (fun _ => [(3, .dat (.b false)), (4, .dat (.i (rcut (seenP ps j i) ((ps.getD j []).getD i ⟨0, 0⟩)).x0)), (5, .dat (.i (rcut (seenP ps j i) ((ps.getD j []).getD i ⟨0, 0⟩)).x1)), (6, .dat (.i (rcut (seenP ps j i) ((ps.getD j []).getD i ⟨0, 0⟩)).y0)), (7, .dat (.i (rcut (seenP ps j i) ((ps.getD j []).getD i ⟨0, 0⟩)).y1))]) (fun _ => []) (fun _ => True) ?_ ?_
            · refine WA_seq (x := (fcd Try.f15 [1, 1, 1, 1, 1, 1, 1, 0, 1, 0, 0, 1, 0, 0, 1, 0, 0, 1, 0, 0, 1, 1, 0, 0])) (y := (fcd Try.f15 [1, 1, 1, 1, 1, 1, 1, 0, 1, 0, 0, 1, 0, 0, 1, 0, 0, 1, 0, 0, 1, 1, 0, 1])) ?_
              refine V_regionX Γ Δ [] [0, 2, 3, 4, 5, 6, 7, 8, 9, 10, 11, 14, 19, 28, 49, 80] (evs ?_)
              all_goals (try with_reducible (repeat' (first | apply And.intro | intro _)))
              all_goals (try (first | with_reducible refine wa_id ?_ | exact True.intro | omega))
              refine V_cond (evs ?_)
              refine ⟨fun hc => ?_, fun hc => ?_⟩
              · refine WA_seq (x := (fcd Try.f15 [1, 1, 1, 1, 1, 1, 1, 0, 1, 0, 0, 1, 0, 0, 1, 0, 0, 1, 0, 0, 1, 1, 0, 1, 0, 0])) (y := (fcd Try.f15 [1, 1, 1, 1, 1, 1, 1, 0, 1, 0, 0, 1, 0, 0, 1, 0, 0, 1, 0, 0, 1, 1, 0, 1, 0, 1])) ?_
                refine V_regionX Γ Δ [] [0, 2, 3, 4, 5, 6, 7, 8, 9, 10, 11, 14, 19, 28, 49, 80] (evs ?_)
                all_goals (try with_reducible (repeat' (first | apply And.intro | intro _)))
                all_goals (try (first | with_reducible refine wa_id ?_ | exact True.intro | omega))
                refine WA_seq (x := (fcd Try.f15 [1, 1, 1, 1, 1, 1, 1, 0, 1, 0, 0, 1, 0, 0, 1, 0, 0, 1, 0, 0, 1, 1, 0, 1, 0, 1, 0])) (y := (fcd Try.f15 [1, 1, 1, 1, 1, 1, 1, 0, 1, 0, 0, 1, 0, 0, 1, 0, 0, 1, 0, 0, 1, 1, 0, 1, 0, 1, 1])) ?_
                refine V_regionX Γ Δ [] [0, 2, 3, 4, 5, 6, 7, 8, 9, 10, 11, 14, 19, 28, 49, 80] (evs ?_)
                all_goals (try with_reducible (repeat' (first | apply And.intro | intro _)))
                all_goals (try (first | with_reducible refine wa_id ?_ | exact True.intro | omega))
                refine WA_seq (x := (fcd Try.f15 [1, 1, 1, 1, 1, 1, 1, 0, 1, 0, 0, 1, 0, 0, 1, 0, 0, 1, 0, 0, 1, 1, 0, 1, 0, 1, 1, 0])) (y := (fcd Try.f15 [1, 1, 1, 1, 1, 1, 1, 0, 1, 0, 0, 1, 0, 0, 1, 0, 0, 1, 0, 0, 1, 1, 0, 1, 0, 1, 1, 1])) ?_
                refine V_regionX Γ Δ [] [0, 2, 3, 4, 5, 6, 7, 8, 9, 10, 11, 14, 19, 28, 49, 80] (evs ?_)
                all_goals (try with_reducible (repeat' (first | apply And.intro | intro _)))
                all_goals (try (first | with_reducible refine wa_id ?_ | exact True.intro | omega))
                refine WA_seq (x := (fcd Try.f15 [1, 1, 1, 1, 1, 1, 1, 0, 1, 0, 0, 1, 0, 0, 1, 0, 0, 1, 0, 0, 1, 1, 0, 1, 0, 1, 1, 1, 0])) (y := (fcd Try.f15 [1, 1, 1, 1, 1, 1, 1, 0, 1, 0, 0, 1, 0, 0, 1, 0, 0, 1, 0, 0, 1, 1, 0, 1, 0, 1, 1, 1, 1])) ?_
                refine V_regionX Γ Δ [] [0, 2, 3, 4, 5, 6, 7, 8, 9, 10, 11, 14, 19, 28, 49, 80] (evs ?_)
                all_goals (try with_reducible (repeat' (first | apply And.intro | intro _)))
                all_goals (try (first | with_reducible refine wa_id ?_ | exact True.intro | omega))
                refine V_regionX Γ Δ [] [0, 2, 3, 4, 5, 6, 7, 8, 9, 10, 11, 14, 19, 28, 49, 80] (evs ?_)
                all_goals (try with_reducible (repeat' (first | apply And.intro | intro _)))
                all_goals (try (first | with_reducible refine wa_id ?_ | exact True.intro | omega))
                refine V_jn [] () (evs ?_) ?_
                all_goals (try with_reducible (repeat' (first | apply And.intro | intro _)))
                all_goals (first | exact True.intro | omega | (first | (rw [rcut_e _ hc]) | (rw [(rb_ne hc).2, (rb_ne hc).1]) | exact hc))
              · refine WA_skip ?_
                refine V_jn [] () (evs ?_) ?_
                all_goals (try with_reducible (repeat' (first | apply And.intro | intro _)))
                all_goals (first | exact True.intro | omega | (first | (rw [rcut_e _ hc]) | (rw [(rb_ne hc).2, (rb_ne hc).1]) | exact hc))
            · intro _ hz
              refine WA_seq (x := (fcd Try.f15 [1, 1, 1, 1, 1, 1, 1, 0, 1, 0, 0, 1, 0, 0, 1, 0, 0, 1, 0, 0, 1, 1, 1, 0])) (y := (fcd Try.f15 [1, 1, 1, 1, 1, 1, 1, 0, 1, 0, 0, 1, 0, 0, 1, 0, 0, 1, 0, 0, 1, 1, 1, 1])) ?_
              refine V_regionX Γ Δ [] [0, 2, 3, 4, 5, 6, 7, 8, 9, 10, 11, 14, 19, 28, 49, 80] (evs ?_)
              all_goals (try with_reducible (repeat' (first | apply And.intro | intro _)))
              all_goals (try (first | with_reducible refine wa_id ?_ | exact True.intro | omega))
              refine WA_seq (x := (fcd Try.f15 [1, 1, 1, 1, 1, 1, 1, 0, 1, 0, 0, 1, 0, 0, 1, 0, 0, 1, 0, 0, 1, 1, 1, 1, 0])) (y := (fcd Try.f15 [1, 1, 1, 1, 1, 1, 1, 0, 1, 0, 0, 1, 0, 0, 1, 0, 0, 1, 0, 0, 1, 1, 1, 1, 1])) ?_
              refine V_regionX Γ Δ [] [0, 2, 3, 4, 5, 6, 7, 8, 9, 10, 11, 14, 19, 28, 49, 80] (evs ?_)
              all_goals (try with_reducible (repeat' (first | apply And.intro | intro _)))
              all_goals (try (first | with_reducible refine wa_id ?_ | exact True.intro | omega))
              refine WA_seq (x := (fcd Try.f15 [1, 1, 1, 1, 1, 1, 1, 0, 1, 0, 0, 1, 0, 0, 1, 0, 0, 1, 0, 0, 1, 1, 1, 1, 1, 0])) (y := (fcd Try.f15 [1, 1, 1, 1, 1, 1, 1, 0, 1, 0, 0, 1, 0, 0, 1, 0, 0, 1, 0, 0, 1, 1, 1, 1, 1, 1])) ?_
              refine V_regionX Γ Δ [] [0, 2, 3, 4, 5, 6, 7, 8, 9, 10, 11, 14, 19, 28, 49, 80] (evs ?_)
              all_goals (try with_reducible (repeat' (first | apply And.intro | intro _)))
              all_goals (try (first | with_reducible refine wa_id ?_ | exact True.intro | omega))
              refine V_regionX Γ Δ [] [0, 2, 3, 4, 5, 6, 7, 8, 9, 10, 11, 14, 19, 28, 49, 80] (evs ?_)
              all_goals (try with_reducible (repeat' (first | apply And.intro | intro _)))
              all_goals (try (first | with_reducible refine wa_id ?_ | exact True.intro | omega))
              refine V_regionX Γ Δ [] [0, 2, 3, 4, 5, 6, 7, 8, 9, 10, 11, 14, 19, 28, 49, 80] (evs ?_)
              all_goals (try with_reducible (repeat' (first | apply And.intro | intro _)))
              all_goals (try (first | with_reducible refine wa_id ?_ | exact True.intro | omega))
              refine V_next [] (i + 1) (evs ?_) ?_ ?_
              all_goals (try with_reducible (repeat' (first | apply And.intro | intro _)))
              all_goals (first | exact True.intro | omega | (first | exact w64l ‹(i : Int) < _› ‹(ps.getD j []).length ≤ 281474976710656› | (rw [seen_next ‹(i : Int) < _›]; first | exact (b4e (rcut_step hp)).1 | exact (b4e (rcut_step hp)).2.1 | exact (b4e (rcut_step hp)).2.2.1 | exact (b4e (rcut_step hp)).2.2.2 | simp)))
          · refine V_exit (evs ?_)
            refine V_regionX Γ Δ [] [0, 2, 3, 4, 5, 6, 7, 8, 9, 10, 11, 14, 19, 28, 49, 80] (evs ?_)
            all_goals (try with_reducible (repeat' (first | apply And.intro | intro _)))
            all_goals (try (first | with_reducible refine wa_id ?_ | exact True.intro | omega))
            refine V_next [] (j + 1) (evs ?_) ?_ ?_
            all_goals (try with_reducible (repeat' (first | apply And.intro | intro _)))
            all_goals (first | exact True.intro | omega | (first | exact w64l ‹(j : Int) < _› ‹ps.length ≤ 281474976710656› | (rw [(rbx0 ‹(j : Int) < _› hc).1]) | (rw [(rbx0 ‹(j : Int) < _› hc).2])))
      · refine V_exit (evs ?_)
        refine WA_seq (x := (fcd Try.f15 [1, 1, 1, 1, 1, 1, 1, 1, 0])) (y := (fcd Try.f15 [1, 1, 1, 1, 1, 1, 1, 1, 1])) ?_
        refine V_regionX Γ Δ [] [0, 2, 3, 4, 5, 6, 7, 8, 9, 10, 11, 14, 19, 28, 49, 80] (evs ?_)
        all_goals (try with_reducible (repeat' (first | apply And.intro | intro _)))
        all_goals (try (first | with_reducible refine wa_id ?_ | exact True.intro | omega))
        refine WA_seq (x := (fcd Try.f15 [1, 1, 1, 1, 1, 1, 1, 1, 1, 0])) (y := (fcd Try.f15 [1, 1, 1, 1, 1, 1, 1, 1, 1, 1])) ?_
        refine V_regionX Γ Δ [] [0, 2, 3, 4, 5, 6, 7, 8, 9, 10, 11, 14, 19, 28, 49, 80] (evs ?_)
        all_goals (try with_reducible (repeat' (first | apply And.intro | intro _)))
        all_goals (try (first | with_reducible refine wa_id ?_ | exact True.intro | omega))
        refine WA_seq (x := (fcd Try.f15 [1, 1, 1, 1, 1, 1, 1, 1, 1, 1, 0])) (y := (fcd Try.f15 [1, 1, 1, 1, 1, 1, 1, 1, 1, 1, 1])) ?_
        refine WA_seq (x := (fcd Try.f15 [1, 1, 1, 1, 1, 1, 1, 1, 1, 1, 0, 0])) (y := (fcd Try.f15 [1, 1, 1, 1, 1, 1, 1, 1, 1, 1, 0, 1])) ?_
        refine V_regionX Γ Δ [] [0, 2, 3, 4, 5, 6, 7, 8, 9, 10, 11, 14, 19, 28, 49, 80] (evs ?_)
        all_goals (try with_reducible (repeat' (first | apply And.intro | intro _)))
        all_goals (try (first | with_reducible refine wa_id ?_ | exact True.intro | omega))
        refine V_cond (evs ?_)
        refine ⟨fun hc => ?_, fun hc => ?_⟩
        · refine WA_seq (x := (fcd Try.f15 [1, 1, 1, 1, 1, 1, 1, 1, 1, 1, 0, 1, 0, 0])) (y := (fcd Try.f15 [1, 1, 1, 1, 1, 1, 1, 1, 1, 1, 0, 1, 0, 1])) ?_
          refine V_regionX Γ Δ [] [0, 2, 3, 4, 5, 6, 7, 8, 9, 10, 11, 14, 19, 28, 49, 80] (evs ?_)
          all_goals (try with_reducible (repeat' (first | apply And.intro | intro _)))
          all_goals (try (first | with_reducible refine wa_id ?_ | exact True.intro | omega))
          refine V_ret (evs ?_)
          first | exact fe (r := zR) (bx0 hc) | exact fe (r := zR) (rbx1 ‹checkE ps 0 = 0› ‹(ps.length : Int) ≤ _› hc) | exact fe (rbx2 ‹checkE ps 0 = 0› ‹(ps.length : Int) ≤ _› hc)
        · refine WA_skip ?_
          refine WA_seq (x := (fcd Try.f15 [1, 1, 1, 1, 1, 1, 1, 1, 1, 1, 1, 0])) (y := (fcd Try.f15 [1, 1, 1, 1, 1, 1, 1, 1, 1, 1, 1, 1])) ?_
          refine V_regionX Γ Δ [] [0, 2, 3, 4, 5, 6, 7, 8, 9, 10, 11, 14, 19, 28, 49, 80] (evs ?_)
          all_goals (try with_reducible (repeat' (first | apply And.intro | intro _)))
          all_goals (try (first | with_reducible refine wa_id ?_ | exact True.intro | omega))
          refine V_ret (evs ?_)
          first | exact fe (r := zR) (bx0 hc) | exact fe (r := zR) (rbx1 ‹checkE ps 0 = 0› ‹(ps.length : Int) ≤ _› hc) | exact fe (rbx2 ‹checkE ps 0 = 0› ‹(ps.length : Int) ≤ _› hc)

end Go.S20

