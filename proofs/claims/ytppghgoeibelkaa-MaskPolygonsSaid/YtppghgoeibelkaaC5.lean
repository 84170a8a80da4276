import Derived.Test.YtppghgoeibelkaaC1
import Derived.Test.YtppghgoeibelkaaLB
set_option linter.unusedSimpArgs false
set_option linter.unusedVariables false
namespace Go.S23
open Go.RowKit Go.Proofs Go.Eng Go.Rect
/-- (imageeditor/cover.edge).before -/
theorem before_fn (s : Ed) (y : Int) (hs : EdOk s) (hy : XOk y) : Eng.Fn Try.prog 103 [edD s, .i y] (.dat (.i (befI s y))) := by
  have hn := befN_bd hs hy
  have hb := befI_bd hs hy
  obtain ⟨⟨a1, a2, a3, a4⟩, b1, b2, b3, b4⟩ := hs
  obtain ⟨y1, y2⟩ := hy
  have m1 := mulG (u := 2 * (s.b.y - s.a.y)) (v := s.a.x) (by omega) (by omega) (by omega) (by omega)
  have m2 := mulG (u := 2 * y + 1 - 2 * s.a.y) (v := s.b.x - s.a.x) (by omega) (by omega) (by omega) (by omega)
  have hE : 2 * (s.b.y - s.a.y) * s.a.x + (2 * y + 1 - 2 * s.a.y) * (s.b.x - s.a.x) - (s.b.y - s.a.y) = befN s y := rfl
  have hF : 0 - floorI (-befN s y) (2 * (s.b.y - s.a.y)) = befI s y := by unfold befI; omega
  refine Eng.Fn.by (fn := Try.f103) 45 [.tmp 4] Try.func103 rfl Try.ntmps103 rfl (by simp) fun w0 => ?_
  refine WA_seq (x := (fcd Try.f103 [0])) (y := (fcd Try.f103 [1])) ?_
  refine V_regionX Γ Δ [] [0, 1, 2, 4, 5, 6] (evs ?_)
  all_goals (try with_reducible (repeat' (first | apply And.intro | intro _)))
  all_goals (try (first | with_reducible refine wa_id ?_ | exact True.intro | omega))
  refine WA_seq (x := (fcd Try.f103 [1, 0])) (y := (fcd Try.f103 [1, 1])) ?_
  refine V_regionX Γ Δ [] [0, 1, 2, 4, 5, 6] (evs ?_)
  all_goals (try with_reducible (repeat' (first | apply And.intro | intro _)))
  all_goals (try (first | with_reducible refine wa_id ?_ | exact True.intro | omega))
  simp (disch := omega) only [w64]
  refine WA_seq (x := (fcd Try.f103 [1, 1, 0])) (y := (fcd Try.f103 [1, 1, 1])) ?_
  refine V_regionX Γ Δ [] [0, 1, 2, 4, 5, 6] (evs ?_)
  all_goals (try with_reducible (repeat' (first | apply And.intro | intro _)))
  all_goals (try (first | with_reducible refine wa_id ?_ | exact True.intro | omega))
  simp (disch := omega) only [w64]
  simp only [hE]
  refine WA_seq (x := (fcd Try.f103 [1, 1, 1, 0])) (y := (fcd Try.f103 [1, 1, 1, 1])) ?_
  refine V_regionX Γ Δ [] [0, 1, 2, 4, 5, 6] (evs ?_)
  simp (disch := omega) only [w64, Int.zero_sub]
  simp only [← hF, Int.zero_sub]
  all_goals (try with_reducible (repeat' (first | apply And.intro | intro _)))
  all_goals (try (first | with_reducible refine wa_id ?_ | exact True.intro | exact floor_fn _ _ (by omega) (by omega) | omega))
  refine V_ret (evs ?_)
  first | exact True.intro | rfl

/-- imageeditor/cover.edges -/
theorem edges_fn (ps : List (List Pt)) (y0 y1 : Int) (hv : checkE ps 0 = 0) : Eng.Fn Try.prog 95 [.sl 1 (ps.map plyC), .i y0, .i y1] (.own 101 4 ((edgesL ps y0 y1).map edC)) := by
  refine Eng.Fn.by (fn := Try.f95) 66 [.tmp 6] Try.func95 rfl Try.ntmps95 rfl (by simp) fun w0 => ?_
  refine WA_seq (x := (fcd Try.f95 [0])) (y := (fcd Try.f95 [1])) ?_
  refine V_regionX Γ Δ [] [0, 1, 2, 6, 7, 9, 10, 11, 12, 13, 14, 15, 16, 19, 20, 21, 22, 56] (evs ?_)
  all_goals (try with_reducible (repeat' (first | apply And.intro | intro _)))
  all_goals (try (first | with_reducible refine wa_id ?_ | exact True.intro | omega | exact nx2 ‹_› | exact nx3 | exact ek_b hv ‹(j : Int) < _›))
  refine WA_seq (x := (fcd Try.f95 [1, 0])) (y := (fcd Try.f95 [1, 1])) ?_
  refine V_regionX Γ Δ [] [0, 1, 2, 6, 7, 9, 10, 11, 12, 13, 14, 15, 16, 19, 20, 21, 22, 56] (evs ?_)
  all_goals (try with_reducible (repeat' (first | apply And.intro | intro _)))
  all_goals (try (first | with_reducible refine wa_id ?_ | exact True.intro | omega | exact nx2 ‹_› | exact nx3 | exact ek_b hv ‹(j : Int) < _›))
  refine WA_seq (x := (fcd Try.f95 [1, 1, 0])) (y := (fcd Try.f95 [1, 1, 1])) ?_
  refine WA_seq (x := (fcd Try.f95 [1, 1, 0, 0])) (y := (fcd Try.f95 [1, 1, 0, 1])) ?_
  refine V_regionX Γ Δ [] [0, 1, 2, 6, 7, 9, 10, 11, 12, 13, 14, 15, 16, 19, 20, 21, 22, 56] (evs ?_)
  all_goals (try with_reducible (repeat' (first | apply And.intro | intro _)))
  all_goals (try (first | with_reducible refine wa_id ?_ | exact True.intro | omega | exact nx2 ‹_› | exact nx3 | exact ek_b hv ‹(j : Int) < _›))
  refine WA_block (c := (fcd Try.f95 [1, 1, 0, 1, 0])) ?_
  refine V_loop (c := (fcd Try.f95 [1, 1, 0, 1, 0, 0])) (α := Nat) [7, 9, 10, 11, 12, 15, 16, 19, 20, 21, 22, 56] [11, 12, 61, 62] (fun j => [(15, .dat (.i (j : Int))), (7, .vw 20000 0 (EK ps y0 y1 j 0).length 4)]) (fun j => [(20000, some (true, .arr 101 4 ((EK ps y0 y1 j 0).map edC)))]) (fun j => j ≤ ps.length) (fun j => ps.length - j) 0 [(20000, none)] ?_ (evs ?_) ?_
  · exact Nat.zero_le _
  · (try with_reducible (repeat' (first | apply And.intro | intro _)))
    all_goals (first | exact True.intro | omega | (simp [EK_0]))
  · intro j hJ
    refine WA_seq (x := (fcd Try.f95 [1, 1, 0, 1, 0, 0, 0])) (y := (fcd Try.f95 [1, 1, 0, 1, 0, 0, 1])) ?_
    refine V_regionX Γ Δ [] [0, 1, 2, 6, 7, 9, 10, 11, 12, 13, 14, 15, 16, 19, 20, 21, 22, 56] (evs ?_)
    all_goals (try with_reducible (repeat' (first | apply And.intro | intro _)))
    all_goals (try (first | with_reducible refine wa_id ?_ | exact True.intro | omega | exact nx2 ‹_› | exact nx3 | exact ek_b hv ‹(j : Int) < _›))
    refine WA_seq (x := (fcd Try.f95 [1, 1, 0, 1, 0, 0, 1, 0])) (y := (fcd Try.f95 [1, 1, 0, 1, 0, 0, 1, 1])) ?_
    refine V_cond (evs ?_)
    refine ⟨fun hc => ?_, fun hc => ?_⟩
    · refine WA_skip ?_
      refine WA_seq (x := (fcd Try.f95 [1, 1, 0, 1, 0, 0, 1, 1, 0])) (y := (fcd Try.f95 [1, 1, 0, 1, 0, 0, 1, 1, 1])) ?_
      refine WA_block (c := (fcd Try.f95 [1, 1, 0, 1, 0, 0, 1, 1, 0, 0])) ?_
      refine WA_seq (x := (fcd Try.f95 [1, 1, 0, 1, 0, 0, 1, 1, 0, 0, 0])) (y := (fcd Try.f95 [1, 1, 0, 1, 0, 0, 1, 1, 0, 0, 1])) ?_
      refine V_regionX Γ Δ [] [0, 1, 2, 6, 7, 9, 10, 11, 12, 13, 14, 15, 16, 19, 20, 21, 22, 56] (evs ?_)
      all_goals (try with_reducible (repeat' (first | apply And.intro | intro _)))
      all_goals (try (first | with_reducible refine wa_id ?_ | exact True.intro | omega | exact nx2 ‹_› | exact nx3 | exact ek_b hv ‹(j : Int) < _›))
      refine WA_seq (x := (fcd Try.f95 [1, 1, 0, 1, 0, 0, 1, 1, 0, 0, 1, 0])) (y := (fcd Try.f95 [1, 1, 0, 1, 0, 0, 1, 1, 0, 0, 1, 1])) ?_
      refine V_regionX Γ Δ [] [0, 1, 2, 6, 7, 9, 10, 11, 12, 13, 14, 15, 16, 19, 20, 21, 22, 56] (evs ?_)
      all_goals (try with_reducible (repeat' (first | apply And.intro | intro _)))
      all_goals (try (first | with_reducible refine wa_id ?_ | exact True.intro | omega | exact nx2 ‹_› | exact nx3 | exact ek_b hv ‹(j : Int) < _›))
      refine WA_block (c := (fcd Try.f95 [1, 1, 0, 1, 0, 0, 1, 1, 0, 0, 1, 1, 0])) ?_
      refine V_loop (c := (fcd Try.f95 [1, 1, 0, 1, 0, 0, 1, 1, 0, 0, 1, 1, 0, 0])) (α := Nat) [7, 10, 11, 12, 21, 22, 56] [11, 12, 61, 62, 20000] (fun i => [(21, .dat (.i (i : Int))), (7, .vw 20001 0 (EK ps y0 y1 j i).length 4)]) (fun i => [(20001, some (true, .arr 101 4 ((EK ps y0 y1 j i).map edC)))]) (fun i => i ≤ (ps.getD j []).length) (fun i => (ps.getD j []).length - i) 0 [(20001, some 20000)] ?_ (evs ?_) ?_
      · exact Nat.zero_le _
      · (try with_reducible (repeat' (first | apply And.intro | intro _)))
        all_goals (first | exact True.intro | omega | (rfl))
      · intro i hK
        refine WA_seq (x := (fcd Try.f95 [1, 1, 0, 1, 0, 0, 1, 1, 0, 0, 1, 1, 0, 0, 0])) (y := (fcd Try.f95 [1, 1, 0, 1, 0, 0, 1, 1, 0, 0, 1, 1, 0, 0, 1])) ?_
        refine V_regionX Γ Δ [] [0, 1, 2, 6, 7, 9, 10, 11, 12, 13, 14, 15, 16, 19, 20, 21, 22, 56] (evs ?_)
        all_goals (try with_reducible (repeat' (first | apply And.intro | intro _)))
        all_goals (try (first | with_reducible refine wa_id ?_ | exact True.intro | omega | exact nx2 ‹_› | exact nx3 | exact ek_b hv ‹(j : Int) < _›))
        refine WA_seq (x := (fcd Try.f95 [1, 1, 0, 1, 0, 0, 1, 1, 0, 0, 1, 1, 0, 0, 1, 0])) (y := (fcd Try.f95 [1, 1, 0, 1, 0, 0, 1, 1, 0, 0, 1, 1, 0, 0, 1, 1])) ?_
        refine V_cond (evs ?_)
        refine ⟨fun hc => ?_, fun hc => ?_⟩
        · refine WA_skip ?_
          refine WA_seq (x := (fcd Try.f95 [1, 1, 0, 1, 0, 0, 1, 1, 0, 0, 1, 1, 0, 0, 1, 1, 0])) (y := (fcd Try.f95 [1, 1, 0, 1, 0, 0, 1, 1, 0, 0, 1, 1, 0, 0, 1, 1, 1])) ?_
          refine WA_block (c := (fcd Try.f95 [1, 1, 0, 1, 0, 0, 1, 1, 0, 0, 1, 1, 0, 0, 1, 1, 0, 0])) ?_
          refine WA_seq (x := (fcd Try.f95 [1, 1, 0, 1, 0, 0, 1, 1, 0, 0, 1, 1, 0, 0, 1, 1, 0, 0, 0])) (y := (fcd Try.f95 [1, 1, 0, 1, 0, 0, 1, 1, 0, 0, 1, 1, 0, 0, 1, 1, 0, 0, 1])) ?_
          refine V_regionX Γ Δ [] [0, 1, 2, 6, 7, 9, 10, 11, 12, 13, 14, 15, 16, 19, 20, 21, 22, 56] (evs ?_)
          all_goals (try with_reducible (repeat' (first | apply And.intro | intro _)))
          all_goals (try (first | with_reducible refine wa_id ?_ | exact True.intro | omega | exact nx2 ‹_› | exact nx3 | exact ek_b hv ‹(j : Int) < _›))
          refine WA_seq (x := (fcd Try.f95 [1, 1, 0, 1, 0, 0, 1, 1, 0, 0, 1, 1, 0, 0, 1, 1, 0, 0, 1, 0])) (y := (fcd Try.f95 [1, 1, 0, 1, 0, 0, 1, 1, 0, 0, 1, 1, 0, 0, 1, 1, 0, 0, 1, 1])) ?_
          refine V_regionX Γ Δ [] [0, 1, 2, 6, 7, 9, 10, 11, 12, 13, 14, 15, 16, 19, 20, 21, 22, 56] (evs ?_)
          have hl := ‹(ps.getD j []).length ≤ 281474976710656›
          simp only [nx1 ‹(i : Int) < _› hl, Int.toNat_natCast, nxtE]
          all_goals (try with_reducible (repeat' (first | apply And.intro | intro _)))
          all_goals (try (first | with_reducible refine wa_id ?_ | exact True.intro | omega | exact nx2 ‹_› | exact nx3 | exact ek_b hv ‹(j : Int) < _›))
          refine WA_seq (x := (fcd Try.f95 [1, 1, 0, 1, 0, 0, 1, 1, 0, 0, 1, 1, 0, 0, 1, 1, 0, 0, 1, 1, 0])) (y := (fcd Try.f95 [1, 1, 0, 1, 0, 0, 1, 1, 0, 0, 1, 1, 0, 0, 1, 1, 0, 0, 1, 1, 1])) ?_
          refine V_regionX Γ Δ [] [0, 1, 2, 6, 7, 9, 10, 11, 12, 13, 14, 15, 16, 19, 20, 21, 22, 56] (evs ?_)
          all_goals (try with_reducible (repeat' (first | apply And.intro | intro _)))
          all_goals (try (first | with_reducible refine wa_id ?_ | exact True.intro | omega | exact nx2 ‹_› | exact nx3 | exact ek_b hv ‹(j : Int) < _›))
          refine V_cond (evs ?_)
          refine ⟨fun hc => ?_, fun hc => ?_⟩
          · refine V_regionX Γ Δ [] [0, 1, 2, 6, 7, 9, 10, 11, 12, 13, 14, 15, 16, 19, 20, 21, 22, 56] (evs ?_)
            all_goals (try with_reducible (repeat' (first | apply And.intro | intro _)))
            all_goals (try (first | with_reducible refine wa_id ?_ | exact True.intro | omega | exact nx2 ‹_› | exact nx3 | exact ek_b hv ‹(j : Int) < _›))
            refine V_regionX Γ Δ [] [0, 1, 2, 6, 7, 9, 10, 11, 12, 13, 14, 15, 16, 19, 20, 21, 22, 56] (evs ?_)
            all_goals (try with_reducible (repeat' (first | apply And.intro | intro _)))
            all_goals (try (first | with_reducible refine wa_id ?_ | exact True.intro | omega | exact nx2 ‹_› | exact nx3 | exact ek_b hv ‹(j : Int) < _›))
            refine V_next [(20001, some 62)] (i + 1) (evs ?_) ?_ ?_
            all_goals (try with_reducible (repeat' (first | apply And.intro | intro _)))
            all_goals (first | exact True.intro | omega | (first | exact w64l ‹(i : Int) < _› ‹(ps.getD j []).length ≤ 281474976710656› | (rw [ek1 ‹(i : Int) < _› hc]; simp [edC]; done) | (rw [ek2 ‹(i : Int) < _› hc])))
          · refine WA_skip ?_
            refine V_regionX Γ Δ [] [0, 1, 2, 6, 7, 9, 10, 11, 12, 13, 14, 15, 16, 19, 20, 21, 22, 56] (evs ?_)
            all_goals (try with_reducible (repeat' (first | apply And.intro | intro _)))
            all_goals (try (first | with_reducible refine wa_id ?_ | exact True.intro | omega | exact nx2 ‹_› | exact nx3 | exact ek_b hv ‹(j : Int) < _›))
            refine V_next [] (i + 1) (evs ?_) ?_ ?_
            all_goals (try with_reducible (repeat' (first | apply And.intro | intro _)))
            all_goals (first | exact True.intro | omega | (first | exact w64l ‹(i : Int) < _› ‹(ps.getD j []).length ≤ 281474976710656› | (rw [ek1 ‹(i : Int) < _› hc]; simp [edC]; done) | (rw [ek2 ‹(i : Int) < _› hc])))
        · refine V_exit (evs ?_)
          refine V_regionX Γ Δ [] [0, 1, 2, 6, 7, 9, 10, 11, 12, 13, 14, 15, 16, 19, 20, 21, 22, 56] (evs ?_)
          all_goals (try with_reducible (repeat' (first | apply And.intro | intro _)))
          all_goals (try (first | with_reducible refine wa_id ?_ | exact True.intro | omega | exact nx2 ‹_› | exact nx3 | exact ek_b hv ‹(j : Int) < _›))
          refine V_next [(20000, some 20001)] (j + 1) (evs ?_) ?_ ?_
          all_goals (try with_reducible (repeat' (first | apply And.intro | intro _)))
          all_goals (first | exact True.intro | omega | (first | exact w64l ‹(j : Int) < _› ‹ps.length ≤ 281474976710656› | (rw [EK_over ‹(j : Int) < _› hc])))
    · refine V_exit (evs ?_)
      refine WA_seq (x := (fcd Try.f95 [1, 1, 1, 0])) (y := (fcd Try.f95 [1, 1, 1, 1])) ?_
      refine V_regionX Γ Δ [] [0, 1, 2, 6, 7, 9, 10, 11, 12, 13, 14, 15, 16, 19, 20, 21, 22, 56] (evs ?_)
      all_goals (try with_reducible (repeat' (first | apply And.intro | intro _)))
      all_goals (try (first | with_reducible refine wa_id ?_ | exact True.intro | omega | exact nx2 ‹_› | exact nx3 | exact ek_b hv ‹(j : Int) < _›))
      refine V_ret (evs ?_)
      rw [EK_all hc]

end Go.S23

