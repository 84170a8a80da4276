import Derived.Test.YtfpimhkkknfmcaaW2
set_option linter.unusedSimpArgs false
set_option linter.unusedVariables false
namespace Go.Rect
open Go.RowKit Go.Proofs Go.Eng
/-- imageeditor/rect.Tiles -/
theorem tiles_fn (r : Rc) : Eng.Fn Try.prog 37 [rcD r] (.own 25 2 ((tilesL r).map ptC)) := by
  refine Eng.Fn.by (fn := Try.f37) 61 [.tmp 2] Try.func37 rfl Try.ntmps37 rfl (by simp) fun w0 => ?_
  refine WA_seq (x := (fcd Try.f37 [0])) (y := (fcd Try.f37 [1])) ?_
  refine V_regionX Γ Δ [] [0, 1, 2, 3, 4, 5, 6, 7, 8, 9, 11, 41, 45, 51] (evs ?_)
  all_goals (try with_reducible (repeat' (first | apply And.intro | intro _)))
  all_goals (try (first | with_reducible refine wa_id ?_ | exact True.intro | omega | exact gri_b2 hn (tly t ‹_›) (tlx t ‹_›) | exact gri_b3 hn (tly t ‹_›) (tlx t ‹_›)))
  refine WA_seq (x := (fcd Try.f37 [1, 0])) (y := (fcd Try.f37 [1, 1])) ?_
  refine WA_seq (x := (fcd Try.f37 [1, 0, 0])) (y := (fcd Try.f37 [1, 0, 1])) ?_
  refine V_regionX Γ Δ [] [0, 1, 2, 3, 4, 5, 6, 7, 8, 9, 11, 41, 45, 51] (evs ?_)
  all_goals (try with_reducible (repeat' (first | apply And.intro | intro _)))
  all_goals (try (first | with_reducible refine wa_id ?_ | exact True.intro | exact empty_fn _ | omega | exact gri_b2 hn (tly t ‹_›) (tlx t ‹_›) | exact gri_b3 hn (tly t ‹_›) (tlx t ‹_›)))
  refine V_cond (evs ?_)
  refine ⟨fun hc => ?_, fun hc => ?_⟩
  · refine WA_seq (x := (fcd Try.f37 [1, 0, 1, 0, 0])) (y := (fcd Try.f37 [1, 0, 1, 0, 1])) ?_
    refine V_regionX Γ Δ [] [0, 1, 2, 3, 4, 5, 6, 7, 8, 9, 11, 41, 45, 51] (evs ?_)
    all_goals (try with_reducible (repeat' (first | apply And.intro | intro _)))
    all_goals (try (first | with_reducible refine wa_id ?_ | exact True.intro | omega | exact gri_b2 hn (tly t ‹_›) (tlx t ‹_›) | exact gri_b3 hn (tly t ‹_›) (tlx t ‹_›)))
    refine V_ret (evs ?_)
    first | exact tl1 hc | exact tl2 ‹_› hc | exact tl3 t ‹_› hm hI hc
  · refine WA_skip ?_
    refine WA_seq (x := (fcd Try.f37 [1, 1, 0])) (y := (fcd Try.f37 [1, 1, 1])) ?_
    refine V_draw Γ [] [0, 1, 2, 3, 4, 5, 6, 7, 8, 9, 11, 41, 45, 51] mixed (by kernel_rfl) (evs ?_)
    have e := empty_spec.1 hc
    simp (disch := omega) only [w64]
    all_goals (try with_reducible (repeat' (first | apply And.intro | intro _)))
    all_goals (try (first | with_reducible refine wa_id ?_ | exact True.intro | exact tile_fn _ (by omega) (by omega) | omega | exact gri_b2 hn (tly t ‹_›) (tlx t ‹_›) | exact gri_b3 hn (tly t ‹_›) (tlx t ‹_›)))
    refine WA_seq (x := (fcd Try.f37 [1, 1, 1, 0])) (y := (fcd Try.f37 [1, 1, 1, 1])) ?_
    refine V_draw Γ [] [0, 1, 2, 3, 4, 5, 6, 7, 8, 9, 11, 41, 45, 51] mixed (by kernel_rfl) (evs ?_)
    simp (disch := omega) only [w64]
    all_goals (try with_reducible (repeat' (first | apply And.intro | intro _)))
    all_goals (try (first | with_reducible refine wa_id ?_ | exact True.intro | exact tile_fn _ (by omega) (by omega) | omega | exact gri_b2 hn (tly t ‹_›) (tlx t ‹_›) | exact gri_b3 hn (tly t ‹_›) (tlx t ‹_›)))
    refine WA_seq (x := (fcd Try.f37 [1, 1, 1, 1, 0])) (y := (fcd Try.f37 [1, 1, 1, 1, 1])) ?_
    refine WA_seq (x := (fcd Try.f37 [1, 1, 1, 1, 0, 0])) (y := (fcd Try.f37 [1, 1, 1, 1, 0, 1])) ?_
    refine V_regionX Γ Δ [] [0, 1, 2, 3, 4, 5, 6, 7, 8, 9, 11, 41, 45, 51] (evs ?_)
    have t := TB.of hc
    simp only [tw t.x0 t.xx t.x1, tw t.y0 t.yy t.y1, tw2 t]
    all_goals (try with_reducible (repeat' (first | apply And.intro | intro _)))
    all_goals (try (first | with_reducible refine wa_id ?_ | exact True.intro | omega | exact gri_b2 hn (tly t ‹_›) (tlx t ‹_›) | exact gri_b3 hn (tly t ‹_›) (tlx t ‹_›)))
    refine V_cond (evs ?_)
    refine ⟨fun hc => ?_, fun hc => ?_⟩
    · refine WA_seq (x := (fcd Try.f37 [1, 1, 1, 1, 0, 1, 0, 0])) (y := (fcd Try.f37 [1, 1, 1, 1, 0, 1, 0, 1])) ?_
      refine V_regionX Γ Δ [] [0, 1, 2, 3, 4, 5, 6, 7, 8, 9, 11, 41, 45, 51] (evs ?_)
      all_goals (try with_reducible (repeat' (first | apply And.intro | intro _)))
      all_goals (try (first | with_reducible refine wa_id ?_ | exact True.intro | omega | exact gri_b2 hn (tly t ‹_›) (tlx t ‹_›) | exact gri_b3 hn (tly t ‹_›) (tlx t ‹_›)))
      refine V_ret (evs ?_)
      first | exact tl1 hc | exact tl2 ‹_› hc | exact tl3 t ‹_› hm hI hc
    · refine WA_skip ?_
      refine WA_seq (x := (fcd Try.f37 [1, 1, 1, 1, 1, 0])) (y := (fcd Try.f37 [1, 1, 1, 1, 1, 1])) ?_
      refine V_regionX Γ Δ [] [0, 1, 2, 3, 4, 5, 6, 7, 8, 9, 11, 41, 45, 51] (evs ?_)
      have hm := hc
      have hn := nm_le t hc
      all_goals (try with_reducible (repeat' (first | apply And.intro | intro _)))
      all_goals (try (first | with_reducible refine wa_id ?_ | exact True.intro | omega | exact gri_b2 hn (tly t ‹_›) (tlx t ‹_›) | exact gri_b3 hn (tly t ‹_›) (tlx t ‹_›)))
      refine WA_seq (x := (fcd Try.f37 [1, 1, 1, 1, 1, 1, 0])) (y := (fcd Try.f37 [1, 1, 1, 1, 1, 1, 1])) ?_
      refine WA_seq (x := (fcd Try.f37 [1, 1, 1, 1, 1, 1, 0, 0])) (y := (fcd Try.f37 [1, 1, 1, 1, 1, 1, 0, 1])) ?_
      refine V_regionX Γ Δ [] [0, 1, 2, 3, 4, 5, 6, 7, 8, 9, 11, 41, 45, 51] (evs ?_)
      all_goals (try with_reducible (repeat' (first | apply And.intro | intro _)))
      all_goals (try (first | with_reducible refine wa_id ?_ | exact True.intro | omega | exact gri_b2 hn (tly t ‹_›) (tlx t ‹_›) | exact gri_b3 hn (tly t ‹_›) (tlx t ‹_›)))
      refine WA_block (c := (fcd Try.f37 [1, 1, 1, 1, 1, 1, 0, 1, 0])) ?_
      refine V_loop (c := (fcd Try.f37 [1, 1, 1, 1, 1, 1, 0, 1, 0, 0])) (α := Nat) [7, 8, 9, 45, 51] [58, 59] (fun j => [(8, .dat (.i (tileI r.y + (j : Int)))), (7, .vw 20000 0 (gr r j).length 2)]) (fun j => [(20000, some (true, .arr 25 2 ((gr r j).map ptC)))]) (fun j => j ≤ NY r) (fun j => NY r - j) 0 [(20000, none)] ?_ (evs ?_) ?_
      · exact Nat.zero_le _
      · (try with_reducible (repeat' (first | apply And.intro | intro _)))
        all_goals (first | exact True.intro | omega | (first | rfl | simp))
      · intro j hI
        refine WA_seq (x := (fcd Try.f37 [1, 1, 1, 1, 1, 1, 0, 1, 0, 0, 0])) (y := (fcd Try.f37 [1, 1, 1, 1, 1, 1, 0, 1, 0, 0, 1])) ?_
        refine WA_seq (x := (fcd Try.f37 [1, 1, 1, 1, 1, 1, 0, 1, 0, 0, 0, 0])) (y := (fcd Try.f37 [1, 1, 1, 1, 1, 1, 0, 1, 0, 0, 0, 1])) ?_
        refine V_regionX Γ Δ [] [0, 1, 2, 3, 4, 5, 6, 7, 8, 9, 11, 41, 45, 51] (evs ?_)
        all_goals (try with_reducible (repeat' (first | apply And.intro | intro _)))
        all_goals (try (first | with_reducible refine wa_id ?_ | exact True.intro | omega | exact gri_b2 hn (tly t ‹_›) (tlx t ‹_›) | exact gri_b3 hn (tly t ‹_›) (tlx t ‹_›)))
        refine V_cond (evs ?_)
        refine ⟨fun hc => ?_, fun hc => ?_⟩
        · refine WA_skip ?_
          refine WA_seq (x := (fcd Try.f37 [1, 1, 1, 1, 1, 1, 0, 1, 0, 0, 1, 0])) (y := (fcd Try.f37 [1, 1, 1, 1, 1, 1, 0, 1, 0, 0, 1, 1])) ?_
          refine WA_block (c := (fcd Try.f37 [1, 1, 1, 1, 1, 1, 0, 1, 0, 0, 1, 0, 0])) ?_
          refine WA_seq (x := (fcd Try.f37 [1, 1, 1, 1, 1, 1, 0, 1, 0, 0, 1, 0, 0, 0])) (y := (fcd Try.f37 [1, 1, 1, 1, 1, 1, 0, 1, 0, 0, 1, 0, 0, 1])) ?_
          refine V_regionX Γ Δ [] [0, 1, 2, 3, 4, 5, 6, 7, 8, 9, 11, 41, 45, 51] (evs ?_)
          all_goals (try with_reducible (repeat' (first | apply And.intro | intro _)))
          all_goals (try (first | with_reducible refine wa_id ?_ | exact True.intro | omega | exact gri_b2 hn (tly t ‹_›) (tlx t ‹_›) | exact gri_b3 hn (tly t ‹_›) (tlx t ‹_›)))
          refine WA_block (c := (fcd Try.f37 [1, 1, 1, 1, 1, 1, 0, 1, 0, 0, 1, 0, 0, 1, 0])) ?_
          refine V_loop (c := (fcd Try.f37 [1, 1, 1, 1, 1, 1, 0, 1, 0, 0, 1, 0, 0, 1, 0, 0])) (α := Nat) [7, 9, 51] [58, 59, 20000] (fun i => [(9, .dat (.i (tileI r.x + (i : Int)))), (7, .vw 20001 0 (gri r j i).length 2)]) (fun i => [(20001, some (true, .arr 25 2 ((gri r j i).map ptC)))]) (fun i => i ≤ NX r) (fun i => NX r - i) 0 [(20001, some 20000)] ?_ (evs ?_) ?_
          · exact Nat.zero_le _
          · (try with_reducible (repeat' (first | apply And.intro | intro _)))
            all_goals (first | exact True.intro | omega | (first | rfl | exact tk1 | exact tk2 | simp))
          · intro i hJ
            refine WA_seq (x := (fcd Try.f37 [1, 1, 1, 1, 1, 1, 0, 1, 0, 0, 1, 0, 0, 1, 0, 0, 0])) (y := (fcd Try.f37 [1, 1, 1, 1, 1, 1, 0, 1, 0, 0, 1, 0, 0, 1, 0, 0, 1])) ?_
            refine WA_seq (x := (fcd Try.f37 [1, 1, 1, 1, 1, 1, 0, 1, 0, 0, 1, 0, 0, 1, 0, 0, 0, 0])) (y := (fcd Try.f37 [1, 1, 1, 1, 1, 1, 0, 1, 0, 0, 1, 0, 0, 1, 0, 0, 0, 1])) ?_
            refine V_regionX Γ Δ [] [0, 1, 2, 3, 4, 5, 6, 7, 8, 9, 11, 41, 45, 51] (evs ?_)
            all_goals (try with_reducible (repeat' (first | apply And.intro | intro _)))
            all_goals (try (first | with_reducible refine wa_id ?_ | exact True.intro | omega | exact gri_b2 hn (tly t ‹_›) (tlx t ‹_›) | exact gri_b3 hn (tly t ‹_›) (tlx t ‹_›)))
            refine V_cond (evs ?_)
            refine ⟨fun hc => ?_, fun hc => ?_⟩
            · refine WA_skip ?_
              refine WA_seq (x := (fcd Try.f37 [1, 1, 1, 1, 1, 1, 0, 1, 0, 0, 1, 0, 0, 1, 0, 0, 1, 0])) (y := (fcd Try.f37 [1, 1, 1, 1, 1, 1, 0, 1, 0, 0, 1, 0, 0, 1, 0, 0, 1, 1])) ?_
              refine WA_block (c := (fcd Try.f37 [1, 1, 1, 1, 1, 1, 0, 1, 0, 0, 1, 0, 0, 1, 0, 0, 1, 0, 0])) ?_
              refine V_regionX Γ Δ [] [0, 1, 2, 3, 4, 5, 6, 7, 8, 9, 11, 41, 45, 51] (evs ?_)
              all_goals (try with_reducible (repeat' (first | apply And.intro | intro _)))
              all_goals (try (first | with_reducible refine wa_id ?_ | exact True.intro | omega | exact gri_b2 hn (tly t ‹_›) (tlx t ‹_›) | exact gri_b3 hn (tly t ‹_›) (tlx t ‹_›)))
              refine V_regionX Γ Δ [] [0, 1, 2, 3, 4, 5, 6, 7, 8, 9, 11, 41, 45, 51] (evs ?_)
              all_goals (try with_reducible (repeat' (first | apply And.intro | intro _)))
              all_goals (try (first | with_reducible refine wa_id ?_ | exact True.intro | omega | exact gri_b2 hn (tly t ‹_›) (tlx t ‹_›) | exact gri_b3 hn (tly t ‹_›) (tlx t ‹_›)))
              refine V_next [(20001, some 59)] (i + 1) (evs ?_) ?_ ?_
              all_goals (try with_reducible (repeat' (first | apply And.intro | intro _)))
              all_goals (first | exact True.intro | omega | (first | exact tj t.x0 (by have := t.x1; omega) | exact tk3 | exact tk4 | (have := tlx t hc; omega)))
            · refine V_exit (evs ?_)
              refine V_regionX Γ Δ [] [0, 1, 2, 3, 4, 5, 6, 7, 8, 9, 11, 41, 45, 51] (evs ?_)
              all_goals (try with_reducible (repeat' (first | apply And.intro | intro _)))
              all_goals (try (first | with_reducible refine wa_id ?_ | exact True.intro | omega | exact gri_b2 hn (tly t ‹_›) (tlx t ‹_›) | exact gri_b3 hn (tly t ‹_›) (tlx t ‹_›)))
              refine V_next [(20000, some 20001)] (j + 1) (evs ?_) ?_ ?_
              all_goals (try with_reducible (repeat' (first | apply And.intro | intro _)))
              all_goals (first | exact True.intro | omega | (first | exact tj t.y0 (by have := t.y1; omega) | exact tk6 t hJ hc | exact tk7 t hJ hc | (have := tly t ‹tileI r.y + (j : Int) ≤ _›; omega)))
        · refine V_exit (evs ?_)
          refine WA_seq (x := (fcd Try.f37 [1, 1, 1, 1, 1, 1, 1, 0])) (y := (fcd Try.f37 [1, 1, 1, 1, 1, 1, 1, 1])) ?_
          refine V_regionX Γ Δ [] [0, 1, 2, 3, 4, 5, 6, 7, 8, 9, 11, 41, 45, 51] (evs ?_)
          all_goals (try with_reducible (repeat' (first | apply And.intro | intro _)))
          all_goals (try (first | with_reducible refine wa_id ?_ | exact True.intro | omega | exact gri_b2 hn (tly t ‹_›) (tlx t ‹_›) | exact gri_b3 hn (tly t ‹_›) (tlx t ‹_›)))
          refine V_ret (evs ?_)
          first | exact tl1 hc | exact tl2 ‹_› hc | exact tl3 t ‹_› hm hI hc

/-- imageeditor/imageeditorref02.Tiles -/
theorem rtiles_fn (r : Rc) : Eng.Fn Try.prog 38 [rcD r] (.own 25 2 ((tilesL r).map ptC)) := by
  refine Eng.Fn.by (fn := Try.f38) 59 [.tmp 2] Try.func38 rfl Try.ntmps38 rfl (by simp) fun w0 => ?_
  refine WA_seq (x := (fcd Try.f38 [0])) (y := (fcd Try.f38 [1])) ?_
  refine V_regionX Γ Δ [] [0, 1, 2, 3, 4, 5, 6, 7, 8, 9, 11, 35, 41, 49] (evs ?_)
  all_goals (try with_reducible (repeat' (first | apply And.intro | intro _)))
  all_goals (try (first | with_reducible refine wa_id ?_ | exact True.intro | omega | exact gri_b2 hn (tly t ‹_›) (tlx t ‹_›) | exact gri_b3 hn (tly t ‹_›) (tlx t ‹_›)))
  refine WA_seq (x := (fcd Try.f38 [1, 0])) (y := (fcd Try.f38 [1, 1])) ?_
  refine WA_seq (x := (fcd Try.f38 [1, 0, 0])) (y := (fcd Try.f38 [1, 0, 1])) ?_
  refine V_regionX Γ Δ [] [0, 1, 2, 3, 4, 5, 6, 7, 8, 9, 11, 35, 41, 49] (evs ?_)
  all_goals (try with_reducible (repeat' (first | apply And.intro | intro _)))
  all_goals (try (first | with_reducible refine wa_id ?_ | exact True.intro | exact rempty_fn _ | omega | exact gri_b2 hn (tly t ‹_›) (tlx t ‹_›) | exact gri_b3 hn (tly t ‹_›) (tlx t ‹_›)))
  refine V_cond (evs ?_)
  refine ⟨fun hc => ?_, fun hc => ?_⟩
  · refine WA_seq (x := (fcd Try.f38 [1, 0, 1, 0, 0])) (y := (fcd Try.f38 [1, 0, 1, 0, 1])) ?_
    refine V_regionX Γ Δ [] [0, 1, 2, 3, 4, 5, 6, 7, 8, 9, 11, 35, 41, 49] (evs ?_)
    all_goals (try with_reducible (repeat' (first | apply And.intro | intro _)))
    all_goals (try (first | with_reducible refine wa_id ?_ | exact True.intro | omega | exact gri_b2 hn (tly t ‹_›) (tlx t ‹_›) | exact gri_b3 hn (tly t ‹_›) (tlx t ‹_›)))
    refine V_ret (evs ?_)
    first | exact tl1 hc | exact tl2 ‹_› hc | exact tl3 t ‹_› hm hI hc
  · refine WA_skip ?_
    refine WA_seq (x := (fcd Try.f38 [1, 1, 0])) (y := (fcd Try.f38 [1, 1, 1])) ?_
    refine V_regionX Γ Δ [] [0, 1, 2, 3, 4, 5, 6, 7, 8, 9, 11, 35, 41, 49] (evs ?_)
    all_goals (try with_reducible (repeat' (first | apply And.intro | intro _)))
    all_goals (try (first | with_reducible refine wa_id ?_ | exact True.intro | exact rspan_fn _ _ | omega | exact gri_b2 hn (tly t ‹_›) (tlx t ‹_›) | exact gri_b3 hn (tly t ‹_›) (tlx t ‹_›)))
    refine WA_seq (x := (fcd Try.f38 [1, 1, 1, 0])) (y := (fcd Try.f38 [1, 1, 1, 1])) ?_
    refine V_regionX Γ Δ [] [0, 1, 2, 3, 4, 5, 6, 7, 8, 9, 11, 35, 41, 49] (evs ?_)
    all_goals (try with_reducible (repeat' (first | apply And.intro | intro _)))
    all_goals (try (first | with_reducible refine wa_id ?_ | exact True.intro | exact rspan_fn _ _ | omega | exact gri_b2 hn (tly t ‹_›) (tlx t ‹_›) | exact gri_b3 hn (tly t ‹_›) (tlx t ‹_›)))
    refine WA_seq (x := (fcd Try.f38 [1, 1, 1, 1, 0])) (y := (fcd Try.f38 [1, 1, 1, 1, 1])) ?_
    refine WA_seq (x := (fcd Try.f38 [1, 1, 1, 1, 0, 0])) (y := (fcd Try.f38 [1, 1, 1, 1, 0, 1])) ?_
    refine V_regionX Γ Δ [] [0, 1, 2, 3, 4, 5, 6, 7, 8, 9, 11, 35, 41, 49] (evs ?_)
    obtain ⟨q1, q2, q3, q4⟩ := sp_ne hc
    have e := empty_spec.1 hc
    have t := TB.of hc
    simp only [q1, q2, q3, q4]
    simp only [tw t.x0 t.xx t.x1, tw t.y0 t.yy t.y1, tw2 t]
    all_goals (try with_reducible (repeat' (first | apply And.intro | intro _)))
    all_goals (try (first | with_reducible refine wa_id ?_ | exact True.intro | exact rtile_fn _ (by omega) (by omega) | omega | exact gri_b2 hn (tly t ‹_›) (tlx t ‹_›) | exact gri_b3 hn (tly t ‹_›) (tlx t ‹_›)))
    refine V_cond (evs ?_)
    refine ⟨fun hc => ?_, fun hc => ?_⟩
    · refine WA_seq (x := (fcd Try.f38 [1, 1, 1, 1, 0, 1, 0, 0])) (y := (fcd Try.f38 [1, 1, 1, 1, 0, 1, 0, 1])) ?_
      refine V_regionX Γ Δ [] [0, 1, 2, 3, 4, 5, 6, 7, 8, 9, 11, 35, 41, 49] (evs ?_)
      all_goals (try with_reducible (repeat' (first | apply And.intro | intro _)))
      all_goals (try (first | with_reducible refine wa_id ?_ | exact True.intro | omega | exact gri_b2 hn (tly t ‹_›) (tlx t ‹_›) | exact gri_b3 hn (tly t ‹_›) (tlx t ‹_›)))
      refine V_ret (evs ?_)
      first | exact tl1 hc | exact tl2 ‹_› hc | exact tl3 t ‹_› hm hI hc
    · refine WA_skip ?_
      refine WA_seq (x := (fcd Try.f38 [1, 1, 1, 1, 1, 0])) (y := (fcd Try.f38 [1, 1, 1, 1, 1, 1])) ?_
      refine V_regionX Γ Δ [] [0, 1, 2, 3, 4, 5, 6, 7, 8, 9, 11, 35, 41, 49] (evs ?_)
      have hm := hc
      have hn := nm_le t hc
      all_goals (try with_reducible (repeat' (first | apply And.intro | intro _)))
      all_goals (try (first | with_reducible refine wa_id ?_ | exact True.intro | omega | exact gri_b2 hn (tly t ‹_›) (tlx t ‹_›) | exact gri_b3 hn (tly t ‹_›) (tlx t ‹_›)))
      refine WA_seq (x := (fcd Try.f38 [1, 1, 1, 1, 1, 1, 0])) (y := (fcd Try.f38 [1, 1, 1, 1, 1, 1, 1])) ?_
      refine WA_seq (x := (fcd Try.f38 [1, 1, 1, 1, 1, 1, 0, 0])) (y := (fcd Try.f38 [1, 1, 1, 1, 1, 1, 0, 1])) ?_
      refine V_regionX Γ Δ [] [0, 1, 2, 3, 4, 5, 6, 7, 8, 9, 11, 35, 41, 49] (evs ?_)
      all_goals (try with_reducible (repeat' (first | apply And.intro | intro _)))
      all_goals (try (first | with_reducible refine wa_id ?_ | exact True.intro | exact rtile_fn _ (by omega) (by omega) | omega | exact gri_b2 hn (tly t ‹_›) (tlx t ‹_›) | exact gri_b3 hn (tly t ‹_›) (tlx t ‹_›)))
      refine WA_block (c := (fcd Try.f38 [1, 1, 1, 1, 1, 1, 0, 1, 0])) ?_
      refine V_loop (c := (fcd Try.f38 [1, 1, 1, 1, 1, 1, 0, 1, 0, 0])) (α := Nat) [7, 8, 9, 41, 49] [56, 57, 14000, 14001, 14002, 14003, 14500, 14501, 14502, 14503, 14800, 14801, 14802, 14803] (fun j => [(8, .dat (.i (tileI r.y + (j : Int)))), (7, .vw 20000 0 (gr r j).length 2)]) (fun j => [(20000, some (true, .arr 25 2 ((gr r j).map ptC)))]) (fun j => j ≤ NY r) (fun j => NY r - j) 0 [(20000, none)] ?_ (evs ?_) ?_
      · exact Nat.zero_le _
      · (try with_reducible (repeat' (first | apply And.intro | intro _)))
        all_goals (first | exact True.intro | omega | (first | rfl | simp))
      · intro j hI
        refine WA_seq (x := (fcd Try.f38 [1, 1, 1, 1, 1, 1, 0, 1, 0, 0, 0])) (y := (fcd Try.f38 [1, 1, 1, 1, 1, 1, 0, 1, 0, 0, 1])) ?_
        refine WA_seq (x := (fcd Try.f38 [1, 1, 1, 1, 1, 1, 0, 1, 0, 0, 0, 0])) (y := (fcd Try.f38 [1, 1, 1, 1, 1, 1, 0, 1, 0, 0, 0, 1])) ?_
        refine V_regionX Γ Δ [] [0, 1, 2, 3, 4, 5, 6, 7, 8, 9, 11, 35, 41, 49] (evs ?_)
        all_goals (try with_reducible (repeat' (first | apply And.intro | intro _)))
        all_goals (try (first | with_reducible refine wa_id ?_ | exact True.intro | exact rtile_fn _ (by omega) (by omega) | omega | exact gri_b2 hn (tly t ‹_›) (tlx t ‹_›) | exact gri_b3 hn (tly t ‹_›) (tlx t ‹_›)))
        refine V_cond (evs ?_)
        refine ⟨fun hc => ?_, fun hc => ?_⟩
        · refine WA_skip ?_
          refine WA_seq (x := (fcd Try.f38 [1, 1, 1, 1, 1, 1, 0, 1, 0, 0, 1, 0])) (y := (fcd Try.f38 [1, 1, 1, 1, 1, 1, 0, 1, 0, 0, 1, 1])) ?_
          refine WA_block (c := (fcd Try.f38 [1, 1, 1, 1, 1, 1, 0, 1, 0, 0, 1, 0, 0])) ?_
          refine WA_seq (x := (fcd Try.f38 [1, 1, 1, 1, 1, 1, 0, 1, 0, 0, 1, 0, 0, 0])) (y := (fcd Try.f38 [1, 1, 1, 1, 1, 1, 0, 1, 0, 0, 1, 0, 0, 1])) ?_
          refine V_regionX Γ Δ [] [0, 1, 2, 3, 4, 5, 6, 7, 8, 9, 11, 35, 41, 49] (evs ?_)
          all_goals (try with_reducible (repeat' (first | apply And.intro | intro _)))
          all_goals (try (first | with_reducible refine wa_id ?_ | exact True.intro | exact rtile_fn _ (by omega) (by omega) | omega | exact gri_b2 hn (tly t ‹_›) (tlx t ‹_›) | exact gri_b3 hn (tly t ‹_›) (tlx t ‹_›)))
          refine WA_block (c := (fcd Try.f38 [1, 1, 1, 1, 1, 1, 0, 1, 0, 0, 1, 0, 0, 1, 0])) ?_
          refine V_loop (c := (fcd Try.f38 [1, 1, 1, 1, 1, 1, 0, 1, 0, 0, 1, 0, 0, 1, 0, 0])) (α := Nat) [7, 9, 49] [56, 57, 14800, 14801, 14802, 14803, 20000] (fun i => [(9, .dat (.i (tileI r.x + (i : Int)))), (7, .vw 20001 0 (gri r j i).length 2)]) (fun i => [(20001, some (true, .arr 25 2 ((gri r j i).map ptC)))]) (fun i => i ≤ NX r) (fun i => NX r - i) 0 [(20001, some 20000)] ?_ (evs ?_) ?_
          · exact Nat.zero_le _
          · (try with_reducible (repeat' (first | apply And.intro | intro _)))
            all_goals (first | exact True.intro | omega | (first | rfl | exact tk1 | exact tk2 | simp))
          · intro i hJ
            refine WA_seq (x := (fcd Try.f38 [1, 1, 1, 1, 1, 1, 0, 1, 0, 0, 1, 0, 0, 1, 0, 0, 0])) (y := (fcd Try.f38 [1, 1, 1, 1, 1, 1, 0, 1, 0, 0, 1, 0, 0, 1, 0, 0, 1])) ?_
            refine WA_seq (x := (fcd Try.f38 [1, 1, 1, 1, 1, 1, 0, 1, 0, 0, 1, 0, 0, 1, 0, 0, 0, 0])) (y := (fcd Try.f38 [1, 1, 1, 1, 1, 1, 0, 1, 0, 0, 1, 0, 0, 1, 0, 0, 0, 1])) ?_
            refine V_regionX Γ Δ [] [0, 1, 2, 3, 4, 5, 6, 7, 8, 9, 11, 35, 41, 49] (evs ?_)
            all_goals (try with_reducible (repeat' (first | apply And.intro | intro _)))
            all_goals (try (first | with_reducible refine wa_id ?_ | exact True.intro | exact rtile_fn _ (by omega) (by omega) | omega | exact gri_b2 hn (tly t ‹_›) (tlx t ‹_›) | exact gri_b3 hn (tly t ‹_›) (tlx t ‹_›)))
            refine V_cond (evs ?_)
            refine ⟨fun hc => ?_, fun hc => ?_⟩
            · refine WA_skip ?_
              refine WA_seq (x := (fcd Try.f38 [1, 1, 1, 1, 1, 1, 0, 1, 0, 0, 1, 0, 0, 1, 0, 0, 1, 0])) (y := (fcd Try.f38 [1, 1, 1, 1, 1, 1, 0, 1, 0, 0, 1, 0, 0, 1, 0, 0, 1, 1])) ?_
              refine WA_block (c := (fcd Try.f38 [1, 1, 1, 1, 1, 1, 0, 1, 0, 0, 1, 0, 0, 1, 0, 0, 1, 0, 0])) ?_
              refine V_regionX Γ Δ [] [0, 1, 2, 3, 4, 5, 6, 7, 8, 9, 11, 35, 41, 49] (evs ?_)
              all_goals (try with_reducible (repeat' (first | apply And.intro | intro _)))
              all_goals (try (first | with_reducible refine wa_id ?_ | exact True.intro | omega | exact gri_b2 hn (tly t ‹_›) (tlx t ‹_›) | exact gri_b3 hn (tly t ‹_›) (tlx t ‹_›)))
              refine V_regionX Γ Δ [] [0, 1, 2, 3, 4, 5, 6, 7, 8, 9, 11, 35, 41, 49] (evs ?_)
              all_goals (try with_reducible (repeat' (first | apply And.intro | intro _)))
              all_goals (try (first | with_reducible refine wa_id ?_ | exact True.intro | omega | exact gri_b2 hn (tly t ‹_›) (tlx t ‹_›) | exact gri_b3 hn (tly t ‹_›) (tlx t ‹_›)))
              refine V_next [(20001, some 57)] (i + 1) (evs ?_) ?_ ?_
              all_goals (try with_reducible (repeat' (first | apply And.intro | intro _)))
              all_goals (first | exact True.intro | omega | (first | exact tj t.x0 (by have := t.x1; omega) | exact tk3 | exact tk4 | (have := tlx t hc; omega)))
            · refine V_exit (evs ?_)
              refine V_regionX Γ Δ [] [0, 1, 2, 3, 4, 5, 6, 7, 8, 9, 11, 35, 41, 49] (evs ?_)
              all_goals (try with_reducible (repeat' (first | apply And.intro | intro _)))
              all_goals (try (first | with_reducible refine wa_id ?_ | exact True.intro | omega | exact gri_b2 hn (tly t ‹_›) (tlx t ‹_›) | exact gri_b3 hn (tly t ‹_›) (tlx t ‹_›)))
              refine V_next [(20000, some 20001)] (j + 1) (evs ?_) ?_ ?_
              all_goals (try with_reducible (repeat' (first | apply And.intro | intro _)))
              all_goals (first | exact True.intro | omega | (first | exact tj t.y0 (by have := t.y1; omega) | exact tk6 t hJ hc | exact tk7 t hJ hc | (have := tly t ‹tileI r.y + (j : Int) ≤ _›; omega)))
        · refine V_exit (evs ?_)
          refine WA_seq (x := (fcd Try.f38 [1, 1, 1, 1, 1, 1, 1, 0])) (y := (fcd Try.f38 [1, 1, 1, 1, 1, 1, 1, 1])) ?_
          refine V_regionX Γ Δ [] [0, 1, 2, 3, 4, 5, 6, 7, 8, 9, 11, 35, 41, 49] (evs ?_)
          all_goals (try with_reducible (repeat' (first | apply And.intro | intro _)))
          all_goals (try (first | with_reducible refine wa_id ?_ | exact True.intro | omega | exact gri_b2 hn (tly t ‹_›) (tlx t ‹_›) | exact gri_b3 hn (tly t ‹_›) (tlx t ‹_›)))
          refine V_ret (evs ?_)
          first | exact tl1 hc | exact tl2 ‹_› hc | exact tl3 t ‹_› hm hI hc

end Go.Rect

