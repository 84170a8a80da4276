import Derived.Test.YtppghgoeibelkaaC1
import Derived.Test.YtppghgoeibelkaaLB
set_option linter.unusedSimpArgs false
set_option linter.unusedVariables false
namespace Go.S23
open Go.RowKit Go.Proofs Go.Eng Go.Rect
set_option maxHeartbeats 1000000 in
/-- imageeditor/imageeditorref20.crosses -/
theorem crosses_fn (a b : Pt) (x y : Int) (ha : PtOk a) (hb : PtOk b) (hx : XOk x) (hy : XOk y) : Eng.Fn Try.prog 105 [ptD a, ptD b, .i x, .i y] (.dat (.i (crossI ⟨a, b⟩ x y))) := by
  unfold PtOk at ha hb
  unfold XOk at hx hy
  have m0 := mulG (u := 2 * a.x) (v := b.y - a.y) (by omega) (by omega) (by omega) (by omega)
  have m1 := mulG (u := 2 * y + 1 - 2 * a.y) (v := b.x - a.x) (by omega) (by omega) (by omega) (by omega)
  have m2 := mulG (u := 2 * x + 1) (v := b.y - a.y) (by omega) (by omega) (by omega) (by omega)
  have m3 := mulG (u := 2 * b.x) (v := a.y - b.y) (by omega) (by omega) (by omega) (by omega)
  have m4 := mulG (u := 2 * y + 1 - 2 * b.y) (v := a.x - b.x) (by omega) (by omega) (by omega) (by omega)
  have m5 := mulG (u := 2 * x + 1) (v := a.y - b.y) (by omega) (by omega) (by omega) (by omega)
  refine Eng.Fn.by (fn := Try.f105) 61 [.tmp 8] Try.func105 rfl Try.ntmps105 rfl (by simp) fun w0 => ?_
  refine WA_seq (x := (fcd Try.f105 [0])) (y := (fcd Try.f105 [1])) ?_
  refine V_regionX Γ Δ [] [0, 1, 2, 3, 4, 5, 8, 9, 10, 11, 16, 29, 59] (evs ?_)
  all_goals (try with_reducible (repeat' (first | apply And.intro | intro _)))
  all_goals (try (first | with_reducible refine wa_id ?_ | exact True.intro | omega))
  refine WA_seq (x := (fcd Try.f105 [1, 0])) (y := (fcd Try.f105 [1, 1])) ?_
  refine V_regionX Γ Δ [] [0, 1, 2, 3, 4, 5, 8, 9, 10, 11, 16, 29, 59] (evs ?_)
  all_goals (try with_reducible (repeat' (first | apply And.intro | intro _)))
  all_goals (try (first | with_reducible refine wa_id ?_ | exact True.intro | omega))
  refine WA_seq (x := (fcd Try.f105 [1, 1, 0])) (y := (fcd Try.f105 [1, 1, 1])) ?_
  refine WA_seq (x := (fcd Try.f105 [1, 1, 0, 0])) (y := (fcd Try.f105 [1, 1, 0, 1])) ?_
  refine V_regionX Γ Δ [] [0, 1, 2, 3, 4, 5, 8, 9, 10, 11, 16, 29, 59] (evs ?_)
  all_goals (try with_reducible (repeat' (first | apply And.intro | intro _)))
  all_goals (try (first | with_reducible refine wa_id ?_ | exact True.intro | omega))
  refine V_cond (evs ?_)
  refine ⟨fun hc => ?_, fun hc => ?_⟩
  · refine WA_seq (x := (fcd Try.f105 [1, 1, 0, 1, 0, 0])) (y := (fcd Try.f105 [1, 1, 0, 1, 0, 1])) ?_
    refine V_regionX Γ Δ [] [0, 1, 2, 3, 4, 5, 8, 9, 10, 11, 16, 29, 59] (evs ?_)
    all_goals (try with_reducible (repeat' (first | apply And.intro | intro _)))
    all_goals (try (first | with_reducible refine wa_id ?_ | exact True.intro | omega))
    refine WA_seq (x := (fcd Try.f105 [1, 1, 0, 1, 0, 1, 0])) (y := (fcd Try.f105 [1, 1, 0, 1, 0, 1, 1])) ?_
    refine V_regionX Γ Δ [] [0, 1, 2, 3, 4, 5, 8, 9, 10, 11, 16, 29, 59] (evs ?_)
    all_goals (try with_reducible (repeat' (first | apply And.intro | intro _)))
    all_goals (try (first | with_reducible refine wa_id ?_ | exact True.intro | omega))
    refine WA_seq (x := (fcd Try.f105 [1, 1, 0, 1, 0, 1, 1, 0])) (y := (fcd Try.f105 [1, 1, 0, 1, 0, 1, 1, 1])) ?_
    refine V_regionX Γ Δ [] [0, 1, 2, 3, 4, 5, 8, 9, 10, 11, 16, 29, 59] (evs ?_)
    all_goals (try with_reducible (repeat' (first | apply And.intro | intro _)))
    all_goals (try (first | with_reducible refine wa_id ?_ | exact True.intro | omega))
    refine V_regionX Γ Δ [] [0, 1, 2, 3, 4, 5, 8, 9, 10, 11, 16, 29, 59] (evs ?_)
    all_goals (try with_reducible (repeat' (first | apply And.intro | intro _)))
    all_goals (try (first | with_reducible refine wa_id ?_ | exact True.intro | omega))
    refine WA_seq (x := (fcd Try.f105 [1, 1, 1, 0])) (y := (fcd Try.f105 [1, 1, 1, 1])) ?_
    refine WA_seq (x := (fcd Try.f105 [1, 1, 1, 0, 0])) (y := (fcd Try.f105 [1, 1, 1, 0, 1])) ?_
    refine V_regionX Γ Δ [] [0, 1, 2, 3, 4, 5, 8, 9, 10, 11, 16, 29, 59] (evs ?_)
    all_goals (try with_reducible (repeat' (first | apply And.intro | intro _)))
    all_goals (try (first | with_reducible refine wa_id ?_ | exact True.intro | omega))
    refine V_cond (evs ?_)
    refine ⟨fun hc => ?_, fun hc => ?_⟩
    · refine WA_seq (x := (fcd Try.f105 [1, 1, 1, 0, 1, 0, 0])) (y := (fcd Try.f105 [1, 1, 1, 0, 1, 0, 1])) ?_
      refine V_regionX Γ Δ [] [0, 1, 2, 3, 4, 5, 8, 9, 10, 11, 16, 29, 59] (evs ?_)
      all_goals (try with_reducible (repeat' (first | apply And.intro | intro _)))
      all_goals (try (first | with_reducible refine wa_id ?_ | exact True.intro | omega))
      refine V_ret (evs ?_)
      clear m0 m1 m2 m3 m4 m5 ha hb hx hy
      first | exact cr1 ‹_› hc | exact cr4 ‹_› hc | exact cr2 ‹_› ‹_› hc | exact cr3 ‹_› ‹_› hc | exact cr5 ‹_› ‹_› hc | exact cr6 ‹_› ‹_› hc
    · refine WA_skip ?_
      refine WA_seq (x := (fcd Try.f105 [1, 1, 1, 1, 0])) (y := (fcd Try.f105 [1, 1, 1, 1, 1])) ?_
      refine V_regionX Γ Δ [] [0, 1, 2, 3, 4, 5, 8, 9, 10, 11, 16, 29, 59] (evs ?_)
      all_goals (try with_reducible (repeat' (first | apply And.intro | intro _)))
      all_goals (try (first | with_reducible refine wa_id ?_ | exact True.intro | omega))
      simp (disch := omega) only [w64]
      refine WA_seq (x := (fcd Try.f105 [1, 1, 1, 1, 1, 0])) (y := (fcd Try.f105 [1, 1, 1, 1, 1, 1])) ?_
      refine WA_seq (x := (fcd Try.f105 [1, 1, 1, 1, 1, 0, 0])) (y := (fcd Try.f105 [1, 1, 1, 1, 1, 0, 1])) ?_
      refine V_regionX Γ Δ [] [0, 1, 2, 3, 4, 5, 8, 9, 10, 11, 16, 29, 59] (evs ?_)
      all_goals (try with_reducible (repeat' (first | apply And.intro | intro _)))
      all_goals (try (first | with_reducible refine wa_id ?_ | exact True.intro | omega))
      simp (disch := omega) only [w64]
      refine V_cond (evs ?_)
      refine ⟨fun hc => ?_, fun hc => ?_⟩
      · refine WA_seq (x := (fcd Try.f105 [1, 1, 1, 1, 1, 0, 1, 0, 0])) (y := (fcd Try.f105 [1, 1, 1, 1, 1, 0, 1, 0, 1])) ?_
        refine V_regionX Γ Δ [] [0, 1, 2, 3, 4, 5, 8, 9, 10, 11, 16, 29, 59] (evs ?_)
        all_goals (try with_reducible (repeat' (first | apply And.intro | intro _)))
        all_goals (try (first | with_reducible refine wa_id ?_ | exact True.intro | omega))
        refine V_ret (evs ?_)
        clear m0 m1 m2 m3 m4 m5 ha hb hx hy
        first | exact cr1 ‹_› hc | exact cr4 ‹_› hc | exact cr2 ‹_› ‹_› hc | exact cr3 ‹_› ‹_› hc | exact cr5 ‹_› ‹_› hc | exact cr6 ‹_› ‹_› hc
      · refine WA_skip ?_
        refine WA_seq (x := (fcd Try.f105 [1, 1, 1, 1, 1, 1, 0])) (y := (fcd Try.f105 [1, 1, 1, 1, 1, 1, 1])) ?_
        refine V_regionX Γ Δ [] [0, 1, 2, 3, 4, 5, 8, 9, 10, 11, 16, 29, 59] (evs ?_)
        all_goals (try with_reducible (repeat' (first | apply And.intro | intro _)))
        all_goals (try (first | with_reducible refine wa_id ?_ | exact True.intro | omega))
        refine V_ret (evs ?_)
        clear m0 m1 m2 m3 m4 m5 ha hb hx hy
        first | exact cr1 ‹_› hc | exact cr4 ‹_› hc | exact cr2 ‹_› ‹_› hc | exact cr3 ‹_› ‹_› hc | exact cr5 ‹_› ‹_› hc | exact cr6 ‹_› ‹_› hc
  · refine WA_skip ?_
    refine WA_seq (x := (fcd Try.f105 [1, 1, 1, 0])) (y := (fcd Try.f105 [1, 1, 1, 1])) ?_
    refine WA_seq (x := (fcd Try.f105 [1, 1, 1, 0, 0])) (y := (fcd Try.f105 [1, 1, 1, 0, 1])) ?_
    refine V_regionX Γ Δ [] [0, 1, 2, 3, 4, 5, 8, 9, 10, 11, 16, 29, 59] (evs ?_)
    all_goals (try with_reducible (repeat' (first | apply And.intro | intro _)))
    all_goals (try (first | with_reducible refine wa_id ?_ | exact True.intro | omega))
    refine V_cond (evs ?_)
    refine ⟨fun hc => ?_, fun hc => ?_⟩
    · refine WA_seq (x := (fcd Try.f105 [1, 1, 1, 0, 1, 0, 0])) (y := (fcd Try.f105 [1, 1, 1, 0, 1, 0, 1])) ?_
      refine V_regionX Γ Δ [] [0, 1, 2, 3, 4, 5, 8, 9, 10, 11, 16, 29, 59] (evs ?_)
      all_goals (try with_reducible (repeat' (first | apply And.intro | intro _)))
      all_goals (try (first | with_reducible refine wa_id ?_ | exact True.intro | omega))
      refine V_ret (evs ?_)
      clear m0 m1 m2 m3 m4 m5 ha hb hx hy
      first | exact cr1 ‹_› hc | exact cr4 ‹_› hc | exact cr2 ‹_› ‹_› hc | exact cr3 ‹_› ‹_› hc | exact cr5 ‹_› ‹_› hc | exact cr6 ‹_› ‹_› hc
    · refine WA_skip ?_
      refine WA_seq (x := (fcd Try.f105 [1, 1, 1, 1, 0])) (y := (fcd Try.f105 [1, 1, 1, 1, 1])) ?_
      refine V_regionX Γ Δ [] [0, 1, 2, 3, 4, 5, 8, 9, 10, 11, 16, 29, 59] (evs ?_)
      all_goals (try with_reducible (repeat' (first | apply And.intro | intro _)))
      all_goals (try (first | with_reducible refine wa_id ?_ | exact True.intro | omega))
      simp (disch := omega) only [w64]
      refine WA_seq (x := (fcd Try.f105 [1, 1, 1, 1, 1, 0])) (y := (fcd Try.f105 [1, 1, 1, 1, 1, 1])) ?_
      refine WA_seq (x := (fcd Try.f105 [1, 1, 1, 1, 1, 0, 0])) (y := (fcd Try.f105 [1, 1, 1, 1, 1, 0, 1])) ?_
      refine V_regionX Γ Δ [] [0, 1, 2, 3, 4, 5, 8, 9, 10, 11, 16, 29, 59] (evs ?_)
      all_goals (try with_reducible (repeat' (first | apply And.intro | intro _)))
      all_goals (try (first | with_reducible refine wa_id ?_ | exact True.intro | omega))
      simp (disch := omega) only [w64]
      refine V_cond (evs ?_)
      refine ⟨fun hc => ?_, fun hc => ?_⟩
      · refine WA_seq (x := (fcd Try.f105 [1, 1, 1, 1, 1, 0, 1, 0, 0])) (y := (fcd Try.f105 [1, 1, 1, 1, 1, 0, 1, 0, 1])) ?_
        refine V_regionX Γ Δ [] [0, 1, 2, 3, 4, 5, 8, 9, 10, 11, 16, 29, 59] (evs ?_)
        all_goals (try with_reducible (repeat' (first | apply And.intro | intro _)))
        all_goals (try (first | with_reducible refine wa_id ?_ | exact True.intro | omega))
        refine V_ret (evs ?_)
        clear m0 m1 m2 m3 m4 m5 ha hb hx hy
        first | exact cr1 ‹_› hc | exact cr4 ‹_› hc | exact cr2 ‹_› ‹_› hc | exact cr3 ‹_› ‹_› hc | exact cr5 ‹_› ‹_› hc | exact cr6 ‹_› ‹_› hc
      · refine WA_skip ?_
        refine WA_seq (x := (fcd Try.f105 [1, 1, 1, 1, 1, 1, 0])) (y := (fcd Try.f105 [1, 1, 1, 1, 1, 1, 1])) ?_
        refine V_regionX Γ Δ [] [0, 1, 2, 3, 4, 5, 8, 9, 10, 11, 16, 29, 59] (evs ?_)
        all_goals (try with_reducible (repeat' (first | apply And.intro | intro _)))
        all_goals (try (first | with_reducible refine wa_id ?_ | exact True.intro | omega))
        refine V_ret (evs ?_)
        clear m0 m1 m2 m3 m4 m5 ha hb hx hy
        first | exact cr1 ‹_› hc | exact cr4 ‹_› hc | exact cr2 ‹_› ‹_› hc | exact cr3 ‹_› ‹_› hc | exact cr5 ‹_› ‹_› hc | exact cr6 ‹_› ‹_› hc

/-- imageeditor/imageeditorref20.inside -/
theorem inside_fn (ps : List (List Pt)) (rule x y : Int) (hv : checkE ps 0 = 0) (hx : XOk x) (hy : XOk y) : Eng.Fn Try.prog 104 [.sl 1 (ps.map plyC), .i rule, .i x, .i y] (.dat (.b (insB rule (insN ps x y)))) := by
  refine Eng.Fn.by (fn := Try.f104) 53 [.tmp 8] Try.func104 rfl Try.ntmps104 rfl (by simp) fun w0 => ?_
  refine WA_seq (x := (fcd Try.f104 [0])) (y := (fcd Try.f104 [1])) ?_
  refine V_regionX Γ Δ [] [0, 1, 2, 3, 8, 9, 10, 11, 12, 16, 26, 47] (evs ?_)
  all_goals (try with_reducible (repeat' (first | apply And.intro | intro _)))
  all_goals (try (first | with_reducible refine wa_id ?_ | exact True.intro | omega | exact nx2 ‹_› | exact nx3))
  refine WA_seq (x := (fcd Try.f104 [1, 0])) (y := (fcd Try.f104 [1, 1])) ?_
  refine V_regionX Γ Δ [] [0, 1, 2, 3, 8, 9, 10, 11, 12, 16, 26, 47] (evs ?_)
  all_goals (try with_reducible (repeat' (first | apply And.intro | intro _)))
  all_goals (try (first | with_reducible refine wa_id ?_ | exact True.intro | omega | exact nx2 ‹_› | exact nx3))
  refine WA_seq (x := (fcd Try.f104 [1, 1, 0])) (y := (fcd Try.f104 [1, 1, 1])) ?_
  refine WA_seq (x := (fcd Try.f104 [1, 1, 0, 0])) (y := (fcd Try.f104 [1, 1, 0, 1])) ?_
  refine V_regionX Γ Δ [] [0, 1, 2, 3, 8, 9, 10, 11, 12, 16, 26, 47] (evs ?_)
  all_goals (try with_reducible (repeat' (first | apply And.intro | intro _)))
  all_goals (try (first | with_reducible refine wa_id ?_ | exact True.intro | omega | exact nx2 ‹_› | exact nx3))
  refine WA_block (c := (fcd Try.f104 [1, 1, 0, 1, 0])) ?_
  refine V_loop (c := (fcd Try.f104 [1, 1, 0, 1, 0, 0])) (α := Nat) [9, 10, 11, 12, 16, 26] [14400, 14401, 14402, 14403] (fun j => [(10, .dat (.i (j : Int))), (9, .dat (.i (insK ps j 0 x y)))]) (fun j => []) (fun j => j ≤ ps.length) (fun j => ps.length - j) 0 [] ?_ (evs ?_) ?_
  · exact Nat.zero_le _
  · (try with_reducible (repeat' (first | apply And.intro | intro _)))
    all_goals (first | exact True.intro | omega | (rfl))
  · intro j hJ
    refine WA_seq (x := (fcd Try.f104 [1, 1, 0, 1, 0, 0, 0])) (y := (fcd Try.f104 [1, 1, 0, 1, 0, 0, 1])) ?_
    refine WA_seq (x := (fcd Try.f104 [1, 1, 0, 1, 0, 0, 0, 0])) (y := (fcd Try.f104 [1, 1, 0, 1, 0, 0, 0, 1])) ?_
    refine V_regionX Γ Δ [] [0, 1, 2, 3, 8, 9, 10, 11, 12, 16, 26, 47] (evs ?_)
    all_goals (try with_reducible (repeat' (first | apply And.intro | intro _)))
    all_goals (try (first | with_reducible refine wa_id ?_ | exact True.intro | omega | exact nx2 ‹_› | exact nx3))
    refine V_cond (evs ?_)
    refine ⟨fun hc => ?_, fun hc => ?_⟩
    · refine WA_skip ?_
      refine WA_seq (x := (fcd Try.f104 [1, 1, 0, 1, 0, 0, 1, 0])) (y := (fcd Try.f104 [1, 1, 0, 1, 0, 0, 1, 1])) ?_
      refine WA_block (c := (fcd Try.f104 [1, 1, 0, 1, 0, 0, 1, 0, 0])) ?_
      refine WA_seq (x := (fcd Try.f104 [1, 1, 0, 1, 0, 0, 1, 0, 0, 0])) (y := (fcd Try.f104 [1, 1, 0, 1, 0, 0, 1, 0, 0, 1])) ?_
      refine V_regionX Γ Δ [] [0, 1, 2, 3, 8, 9, 10, 11, 12, 16, 26, 47] (evs ?_)
      all_goals (try with_reducible (repeat' (first | apply And.intro | intro _)))
      all_goals (try (first | with_reducible refine wa_id ?_ | exact True.intro | omega | exact nx2 ‹_› | exact nx3))
      refine WA_seq (x := (fcd Try.f104 [1, 1, 0, 1, 0, 0, 1, 0, 0, 1, 0])) (y := (fcd Try.f104 [1, 1, 0, 1, 0, 0, 1, 0, 0, 1, 1])) ?_
      refine V_regionX Γ Δ [] [0, 1, 2, 3, 8, 9, 10, 11, 12, 16, 26, 47] (evs ?_)
      all_goals (try with_reducible (repeat' (first | apply And.intro | intro _)))
      all_goals (try (first | with_reducible refine wa_id ?_ | exact True.intro | omega | exact nx2 ‹_› | exact nx3))
      refine WA_block (c := (fcd Try.f104 [1, 1, 0, 1, 0, 0, 1, 0, 0, 1, 1, 0])) ?_
      refine V_loop (c := (fcd Try.f104 [1, 1, 0, 1, 0, 0, 1, 0, 0, 1, 1, 0, 0])) (α := Nat) [9, 12, 26] [14400, 14401, 14402, 14403] (fun i => [(12, .dat (.i (i : Int))), (9, .dat (.i (insK ps j i x y)))]) (fun i => []) (fun i => i ≤ (ps.getD j []).length) (fun i => (ps.getD j []).length - i) 0 [] ?_ (evs ?_) ?_
      · exact Nat.zero_le _
      · (try with_reducible (repeat' (first | apply And.intro | intro _)))
        all_goals (first | exact True.intro | omega | (rfl))
      · intro i hK
        refine WA_seq (x := (fcd Try.f104 [1, 1, 0, 1, 0, 0, 1, 0, 0, 1, 1, 0, 0, 0])) (y := (fcd Try.f104 [1, 1, 0, 1, 0, 0, 1, 0, 0, 1, 1, 0, 0, 1])) ?_
        refine WA_seq (x := (fcd Try.f104 [1, 1, 0, 1, 0, 0, 1, 0, 0, 1, 1, 0, 0, 0, 0])) (y := (fcd Try.f104 [1, 1, 0, 1, 0, 0, 1, 0, 0, 1, 1, 0, 0, 0, 1])) ?_
        refine V_regionX Γ Δ [] [0, 1, 2, 3, 8, 9, 10, 11, 12, 16, 26, 47] (evs ?_)
        all_goals (try with_reducible (repeat' (first | apply And.intro | intro _)))
        all_goals (try (first | with_reducible refine wa_id ?_ | exact True.intro | omega | exact nx2 ‹_› | exact nx3))
        refine V_cond (evs ?_)
        refine ⟨fun hc => ?_, fun hc => ?_⟩
        · refine WA_skip ?_
          refine WA_seq (x := (fcd Try.f104 [1, 1, 0, 1, 0, 0, 1, 0, 0, 1, 1, 0, 0, 1, 0])) (y := (fcd Try.f104 [1, 1, 0, 1, 0, 0, 1, 0, 0, 1, 1, 0, 0, 1, 1])) ?_
          refine WA_block (c := (fcd Try.f104 [1, 1, 0, 1, 0, 0, 1, 0, 0, 1, 1, 0, 0, 1, 0, 0])) ?_
          refine V_draw Γ [] [0, 1, 2, 3, 8, 9, 10, 11, 12, 16, 26, 47] mixed (by kernel_rfl) (evs ?_)
          have hl := ‹(ps.getD j []).length ≤ 281474976710656›
          have hq := pq_in hv ‹(j : Int) < _› ‹(i : Int) < _›
          simp only [nx1 ‹(i : Int) < _› hl, Int.toNat_natCast, nxtE]
          all_goals (try with_reducible (repeat' (first | apply And.intro | intro _)))
          all_goals (try (first | with_reducible refine wa_id ?_ | exact True.intro | exact crosses_fn ⟨_, _⟩ ⟨_, _⟩ _ _ hq.1 hq.2 hx hy | omega | exact nx2 ‹_› | exact nx3))
          simp only [ik1 hv ‹(j : Int) < _› ‹(i : Int) < _›]
          refine V_regionX Γ Δ [] [0, 1, 2, 3, 8, 9, 10, 11, 12, 16, 26, 47] (evs ?_)
          all_goals (try with_reducible (repeat' (first | apply And.intro | intro _)))
          all_goals (try (first | with_reducible refine wa_id ?_ | exact True.intro | omega | exact nx2 ‹_› | exact nx3))
          refine V_next [] (i + 1) (evs ?_) ?_ ?_
          all_goals (try with_reducible (repeat' (first | apply And.intro | intro _)))
          all_goals (first | exact True.intro | omega | (first | exact w64l ‹(i : Int) < _› ‹(ps.getD j []).length ≤ 281474976710656› | rfl))
        · refine V_exit (evs ?_)
          refine V_regionX Γ Δ [] [0, 1, 2, 3, 8, 9, 10, 11, 12, 16, 26, 47] (evs ?_)
          all_goals (try with_reducible (repeat' (first | apply And.intro | intro _)))
          all_goals (try (first | with_reducible refine wa_id ?_ | exact True.intro | omega | exact nx2 ‹_› | exact nx3))
          refine V_next [] (j + 1) (evs ?_) ?_ ?_
          all_goals (try with_reducible (repeat' (first | apply And.intro | intro _)))
          all_goals (first | exact True.intro | omega | (first | exact w64l ‹(j : Int) < _› ‹ps.length ≤ 281474976710656› | (rw [insK_over ‹(j : Int) < _› hc])))
    · refine V_exit (evs ?_)
      refine WA_seq (x := (fcd Try.f104 [1, 1, 1, 0])) (y := (fcd Try.f104 [1, 1, 1, 1])) ?_
      refine WA_seq (x := (fcd Try.f104 [1, 1, 1, 0, 0])) (y := (fcd Try.f104 [1, 1, 1, 0, 1])) ?_
      refine V_regionX Γ Δ [] [0, 1, 2, 3, 8, 9, 10, 11, 12, 16, 26, 47] (evs ?_)
      all_goals (try with_reducible (repeat' (first | apply And.intro | intro _)))
      all_goals (try (first | with_reducible refine wa_id ?_ | exact True.intro | omega | exact nx2 ‹_› | exact nx3))
      refine V_cond (evs ?_)
      refine ⟨fun hc => ?_, fun hc => ?_⟩
      · refine WA_seq (x := (fcd Try.f104 [1, 1, 1, 0, 1, 0, 0])) (y := (fcd Try.f104 [1, 1, 1, 0, 1, 0, 1])) ?_
        refine V_regionX Γ Δ [] [0, 1, 2, 3, 8, 9, 10, 11, 12, 16, 26, 47] (evs ?_)
        all_goals (try with_reducible (repeat' (first | apply And.intro | intro _)))
        all_goals (try (first | with_reducible refine wa_id ?_ | exact True.intro | omega | exact nx2 ‹_› | exact nx3))
        refine V_ret (evs ?_)
        first | exact ib1 ‹(ps.length : Int) ≤ _› hc | exact ib2 ‹(ps.length : Int) ≤ _› hc
      · refine WA_skip ?_
        refine WA_seq (x := (fcd Try.f104 [1, 1, 1, 1, 0])) (y := (fcd Try.f104 [1, 1, 1, 1, 1])) ?_
        refine V_regionX Γ Δ [] [0, 1, 2, 3, 8, 9, 10, 11, 12, 16, 26, 47] (evs ?_)
        all_goals (try with_reducible (repeat' (first | apply And.intro | intro _)))
        all_goals (try (first | with_reducible refine wa_id ?_ | exact True.intro | omega | exact nx2 ‹_› | exact nx3))
        refine V_ret (evs ?_)
        first | exact ib1 ‹(ps.length : Int) ≤ _› hc | exact ib2 ‹(ps.length : Int) ≤ _› hc

end Go.S23

