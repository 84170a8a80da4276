import Derived.Test.YtnbeigcjhpldmaaGreatB1
import Derived.Test.YtnbeigcjhpldmaaGreatA1
import Derived.Test.YtnbeigcjhpldmaaGreatB2
import Derived.Test.YtnbeigcjhpldmaaGreatC0
set_option linter.unusedSimpArgs false
set_option linter.unusedVariables false
set_option linter.unusedSimpArgs false
set_option linter.unusedVariables false
namespace Go.S03
open Go.RowKit Go.Proofs Go.Eng Go.Rect
set_option maxHeartbeats 4000000 in
set_option maxRecDepth 100000 in
theorem tiles3_fn (a : List Rc) : Eng.Fn Tryz.prog 4 [.sl 4 (a.map rcC)] (.own 26 2 ((tilesF a).map ptC)) := by
  refine Eng.Fn.by (fn := Tryz.f4) 50 [.tmp 2] Tryz.func4 rfl Tryz.ntmps4 rfl (by simp) fun w0 G0 => ?_
  refine WA_seq (x := (fcd Tryz.f4 [0])) (y := (fcd Tryz.f4 [1])) ?_
  refine V_regionZ Γ Δ Θ [] [0, 2, 3, 5, 6, 8, 9, 10, 13, 14, 15, 16, 23, 24, 25, 26, 27, 35, 38, 40] (evs ?_)
  all_goals (try with_reducible (repeat' (first | apply And.intro | intro _)))
  all_goals (try (first | with_reducible refine wa_id ?_ | exact True.intro | omega | exact els_fn _ | exact tiles_fn ⟨_, _, _, _⟩ | exact srtpt_fx _ | exact exP ‹_› | (rw [srtPt_len]; done) | (rw [srtPt_len]; omega)))
  refine WA_seq (x := (fcd Tryz.f4 [1, 0])) (y := (fcd Tryz.f4 [1, 1])) ?_
  refine V_regionZ Γ Δ Θ [] [0, 2, 3, 5, 6, 8, 9, 10, 13, 14, 15, 16, 23, 24, 25, 26, 27, 35, 38, 40] (evs ?_)
  all_goals (try with_reducible (repeat' (first | apply And.intro | intro _)))
  all_goals (try (first | with_reducible refine wa_id ?_ | exact True.intro | omega | exact els_fn _ | exact tiles_fn ⟨_, _, _, _⟩ | exact srtpt_fx _ | exact exP ‹_› | (rw [srtPt_len]; done) | (rw [srtPt_len]; omega)))
  refine WA_seq (x := (fcd Tryz.f4 [1, 1, 0])) (y := (fcd Tryz.f4 [1, 1, 1])) ?_
  refine WA_seq (x := (fcd Tryz.f4 [1, 1, 0, 0])) (y := (fcd Tryz.f4 [1, 1, 0, 1])) ?_
  refine V_regionZ Γ Δ Θ [] [0, 2, 3, 5, 6, 8, 9, 10, 13, 14, 15, 16, 23, 24, 25, 26, 27, 35, 38, 40] (evs ?_)
  all_goals (try with_reducible (repeat' (first | apply And.intro | intro _)))
  all_goals (try (first | with_reducible refine wa_id ?_ | exact True.intro | exact els_fn _ | omega | exact els_fn _ | exact tiles_fn ⟨_, _, _, _⟩ | exact srtpt_fx _ | exact exP ‹_› | (rw [srtPt_len]; done) | (rw [srtPt_len]; omega)))
  refine WA_block (c := (fcd Tryz.f4 [1, 1, 0, 1, 0])) ?_
  refine V_loop (c := (fcd Tryz.f4 [1, 1, 0, 1, 0, 0])) (α := Nat) [2, 5, 6, 8, 15, 16, 23, 24, 25, 26, 27, 35] [5, 8, 11, 12000, 12001, 12002, 12003] (fun k => [(15, .dat (.i (k : Int)))]) (fun k => [(11, some (true, .mp 2 ((ftK (els a) k).map ptE)))]) (fun k => k ≤ (els a).length ∧ ∀ j, j < k → badT (els a) j = false) (fun k => (els a).length - k) 0 [] ?_ (evs ?_) ?_
  · exact ⟨Nat.zero_le _, fun j hj => by omega⟩
  · (try with_reducible (repeat' (first | apply And.intro | intro _)))
    all_goals (first | exact True.intro | omega | (first | rfl))
  · intro k hI
    refine WA_seq (x := (fcd Tryz.f4 [1, 1, 0, 1, 0, 0, 0])) (y := (fcd Tryz.f4 [1, 1, 0, 1, 0, 0, 1])) ?_
    refine V_regionZ Γ Δ Θ [] [0, 2, 3, 5, 6, 8, 9, 10, 13, 14, 15, 16, 23, 24, 25, 26, 27, 35, 38, 40] (evs ?_)
    all_goals (try with_reducible (repeat' (first | apply And.intro | intro _)))
    all_goals (try (first | with_reducible refine wa_id ?_ | exact True.intro | omega | exact els_fn _ | exact tiles_fn ⟨_, _, _, _⟩ | exact srtpt_fx _ | exact exP ‹_› | (rw [srtPt_len]; done) | (rw [srtPt_len]; omega)))
    refine WA_seq (x := (fcd Tryz.f4 [1, 1, 0, 1, 0, 0, 1, 0])) (y := (fcd Tryz.f4 [1, 1, 0, 1, 0, 0, 1, 1])) ?_
    refine V_cond (evs ?_)
    refine ⟨fun hc => ?_, fun hc => ?_⟩
    · refine WA_skip ?_
      refine WA_seq (x := (fcd Tryz.f4 [1, 1, 0, 1, 0, 0, 1, 1, 0])) (y := (fcd Tryz.f4 [1, 1, 0, 1, 0, 0, 1, 1, 1])) ?_
      refine WA_block (c := (fcd Tryz.f4 [1, 1, 0, 1, 0, 0, 1, 1, 0, 0])) ?_
      refine WA_seq (x := (fcd Tryz.f4 [1, 1, 0, 1, 0, 0, 1, 1, 0, 0, 0])) (y := (fcd Tryz.f4 [1, 1, 0, 1, 0, 0, 1, 1, 0, 0, 1])) ?_
      refine V_regionZ Γ Δ Θ [] [0, 2, 3, 5, 6, 8, 9, 10, 13, 14, 15, 16, 23, 24, 25, 26, 27, 35, 38, 40] (evs ?_)
      all_goals (try with_reducible (repeat' (first | apply And.intro | intro _)))
      all_goals (try (first | with_reducible refine wa_id ?_ | exact True.intro | omega | exact els_fn _ | exact tiles_fn ⟨_, _, _, _⟩ | exact srtpt_fx _ | exact exP ‹_› | (rw [srtPt_len]; done) | (rw [srtPt_len]; omega)))
      refine WA_seq (x := (fcd Tryz.f4 [1, 1, 0, 1, 0, 0, 1, 1, 0, 0, 1, 0])) (y := (fcd Tryz.f4 [1, 1, 0, 1, 0, 0, 1, 1, 0, 0, 1, 1])) ?_
      refine V_regionZ Γ Δ Θ [] [0, 2, 3, 5, 6, 8, 9, 10, 13, 14, 15, 16, 23, 24, 25, 26, 27, 35, 38, 40] (evs ?_)
      all_goals (try with_reducible (repeat' (first | apply And.intro | intro _)))
      all_goals (try (first | with_reducible refine wa_id ?_ | exact True.intro | exact tiles_fn ⟨_, _, _, _⟩ | omega | exact els_fn _ | exact tiles_fn ⟨_, _, _, _⟩ | exact srtpt_fx _ | exact exP ‹_› | (rw [srtPt_len]; done) | (rw [srtPt_len]; omega)))
      refine WA_seq (x := (fcd Tryz.f4 [1, 1, 0, 1, 0, 0, 1, 1, 0, 0, 1, 1, 0])) (y := (fcd Tryz.f4 [1, 1, 0, 1, 0, 0, 1, 1, 0, 0, 1, 1, 1])) ?_
      refine WA_seq (x := (fcd Tryz.f4 [1, 1, 0, 1, 0, 0, 1, 1, 0, 0, 1, 1, 0, 0])) (y := (fcd Tryz.f4 [1, 1, 0, 1, 0, 0, 1, 1, 0, 0, 1, 1, 0, 1])) ?_
      refine V_regionZ Γ Δ Θ [] [0, 2, 3, 5, 6, 8, 9, 10, 13, 14, 15, 16, 23, 24, 25, 26, 27, 35, 38, 40] (evs ?_)
      all_goals (try with_reducible (repeat' (first | apply And.intro | intro _)))
      all_goals (try (first | with_reducible refine wa_id ?_ | exact True.intro | omega | exact els_fn _ | exact tiles_fn ⟨_, _, _, _⟩ | exact srtpt_fx _ | exact exP ‹_› | (rw [srtPt_len]; done) | (rw [srtPt_len]; omega)))
      refine V_cond (evs ?_)
      refine ⟨fun hc => ?_, fun hc => ?_⟩
      · refine WA_seq (x := (fcd Tryz.f4 [1, 1, 0, 1, 0, 0, 1, 1, 0, 0, 1, 1, 0, 1, 0, 0])) (y := (fcd Tryz.f4 [1, 1, 0, 1, 0, 0, 1, 1, 0, 0, 1, 1, 0, 1, 0, 1])) ?_
        refine V_regionZ Γ Δ Θ [] [0, 2, 3, 5, 6, 8, 9, 10, 13, 14, 15, 16, 23, 24, 25, 26, 27, 35, 38, 40] (evs ?_)
        all_goals (try with_reducible (repeat' (first | apply And.intro | intro _)))
        all_goals (try (first | with_reducible refine wa_id ?_ | exact True.intro | omega | exact els_fn _ | exact tiles_fn ⟨_, _, _, _⟩ | exact srtpt_fx _ | exact exP ‹_› | (rw [srtPt_len]; done) | (rw [srtPt_len]; omega)))
        refine V_ret (evs ?_)
        first | exact True.intro | rfl | (rw [tf_bad ‹_› (bad_1 hc)]; done) | (rw [tf_bad ‹_› (bad_1 hc)]; rfl) | (rw [tf_bad ‹_› (bad_2 hc)]; rfl) | exact tf_fin hP hE hc hI | exact (tf_fin hP hE hc hI).2
      · refine WA_skip ?_
        refine WA_seq (x := (fcd Tryz.f4 [1, 1, 0, 1, 0, 0, 1, 1, 0, 0, 1, 1, 1, 0])) (y := (fcd Tryz.f4 [1, 1, 0, 1, 0, 0, 1, 1, 0, 0, 1, 1, 1, 1])) ?_
        refine WA_seq (x := (fcd Tryz.f4 [1, 1, 0, 1, 0, 0, 1, 1, 0, 0, 1, 1, 1, 0, 0])) (y := (fcd Tryz.f4 [1, 1, 0, 1, 0, 0, 1, 1, 0, 0, 1, 1, 1, 0, 1])) ?_
        refine V_regionZ Γ Δ Θ [] [0, 2, 3, 5, 6, 8, 9, 10, 13, 14, 15, 16, 23, 24, 25, 26, 27, 35, 38, 40] (evs ?_)
        all_goals (try with_reducible (repeat' (first | apply And.intro | intro _)))
        all_goals (try (first | with_reducible refine wa_id ?_ | exact True.intro | omega | exact els_fn _ | exact tiles_fn ⟨_, _, _, _⟩ | exact srtpt_fx _ | exact exP ‹_› | (rw [srtPt_len]; done) | (rw [srtPt_len]; omega)))
        refine WA_block (c := (fcd Tryz.f4 [1, 1, 0, 1, 0, 0, 1, 1, 0, 0, 1, 1, 1, 0, 1, 0])) ?_
        refine V_loop (c := (fcd Tryz.f4 [1, 1, 0, 1, 0, 0, 1, 1, 0, 0, 1, 1, 1, 0, 1, 0, 0])) (α := Nat) [8, 26, 27] [8, 11] (fun m => [(26, .dat (.i (m : Int)))]) (fun m => [(11, some (true, .mp 2 ((inpK (ftK (els a) k) (tilesL ((els a).getD k zR)) m).map ptE)))]) (fun m => m ≤ (tilesL ((els a).getD k zR)).length) (fun m => (tilesL ((els a).getD k zR)).length - m) 0 [] ?_ (evs ?_) ?_
        · exact Nat.zero_le _
        · (try with_reducible (repeat' (first | apply And.intro | intro _)))
          all_goals (first | exact True.intro | omega | (first | rfl))
        · intro m hA
          refine WA_seq (x := (fcd Tryz.f4 [1, 1, 0, 1, 0, 0, 1, 1, 0, 0, 1, 1, 1, 0, 1, 0, 0, 0])) (y := (fcd Tryz.f4 [1, 1, 0, 1, 0, 0, 1, 1, 0, 0, 1, 1, 1, 0, 1, 0, 0, 1])) ?_
          refine V_regionZ Γ Δ Θ [] [0, 2, 3, 5, 6, 8, 9, 10, 13, 14, 15, 16, 23, 24, 25, 26, 27, 35, 38, 40] (evs ?_)
          all_goals (try with_reducible (repeat' (first | apply And.intro | intro _)))
          all_goals (try (first | with_reducible refine wa_id ?_ | exact True.intro | omega | exact els_fn _ | exact tiles_fn ⟨_, _, _, _⟩ | exact srtpt_fx _ | exact exP ‹_› | (rw [srtPt_len]; done) | (rw [srtPt_len]; omega)))
          refine WA_seq (x := (fcd Tryz.f4 [1, 1, 0, 1, 0, 0, 1, 1, 0, 0, 1, 1, 1, 0, 1, 0, 0, 1, 0])) (y := (fcd Tryz.f4 [1, 1, 0, 1, 0, 0, 1, 1, 0, 0, 1, 1, 1, 0, 1, 0, 0, 1, 1])) ?_
          refine V_cond (evs ?_)
          refine ⟨fun hc => ?_, fun hc => ?_⟩
          · refine WA_skip ?_
            refine WA_seq (x := (fcd Tryz.f4 [1, 1, 0, 1, 0, 0, 1, 1, 0, 0, 1, 1, 1, 0, 1, 0, 0, 1, 1, 0])) (y := (fcd Tryz.f4 [1, 1, 0, 1, 0, 0, 1, 1, 0, 0, 1, 1, 1, 0, 1, 0, 0, 1, 1, 1])) ?_
            refine WA_block (c := (fcd Tryz.f4 [1, 1, 0, 1, 0, 0, 1, 1, 0, 0, 1, 1, 1, 0, 1, 0, 0, 1, 1, 0, 0])) ?_
            refine WA_seq (x := (fcd Tryz.f4 [1, 1, 0, 1, 0, 0, 1, 1, 0, 0, 1, 1, 1, 0, 1, 0, 0, 1, 1, 0, 0, 0])) (y := (fcd Tryz.f4 [1, 1, 0, 1, 0, 0, 1, 1, 0, 0, 1, 1, 1, 0, 1, 0, 0, 1, 1, 0, 0, 1])) ?_
            refine V_regionZ Γ Δ Θ [] [0, 2, 3, 5, 6, 8, 9, 10, 13, 14, 15, 16, 23, 24, 25, 26, 27, 35, 38, 40] (evs ?_)
            all_goals (try with_reducible (repeat' (first | apply And.intro | intro _)))
            all_goals (try (first | with_reducible refine wa_id ?_ | exact True.intro | omega | exact els_fn _ | exact tiles_fn ⟨_, _, _, _⟩ | exact srtpt_fx _ | exact exP ‹_› | (rw [srtPt_len]; done) | (rw [srtPt_len]; omega)))
            refine V_regionZ Γ Δ Θ [] [0, 2, 3, 5, 6, 8, 9, 10, 13, 14, 15, 16, 23, 24, 25, 26, 27, 35, 38, 40] (evs ?_)
            try simp only [upd_ins]
            all_goals (try with_reducible (repeat' (first | apply And.intro | intro _)))
            all_goals (try (first | with_reducible refine wa_id ?_ | exact True.intro | omega | exact els_fn _ | exact tiles_fn ⟨_, _, _, _⟩ | exact srtpt_fx _ | exact exP ‹_› | (rw [srtPt_len]; done) | (rw [srtPt_len]; omega)))
            refine V_regionZ Γ Δ Θ [] [0, 2, 3, 5, 6, 8, 9, 10, 13, 14, 15, 16, 23, 24, 25, 26, 27, 35, 38, 40] (evs ?_)
            all_goals (try with_reducible (repeat' (first | apply And.intro | intro _)))
            all_goals (try (first | with_reducible refine wa_id ?_ | exact True.intro | omega | exact els_fn _ | exact tiles_fn ⟨_, _, _, _⟩ | exact srtpt_fx _ | exact exP ‹_› | (rw [srtPt_len]; done) | (rw [srtPt_len]; omega)))
            refine V_next [] (m + 1) (evs ?_) ?_ ?_
            all_goals (try with_reducible (repeat' (first | apply And.intro | intro _)))
            all_goals (first | exact True.intro | omega | (first | exact w64n ‹(m : Int) < _› ‹_› | (rw [inpK_s ‹_›]; done)))
          · refine V_exit (evs ?_)
            refine WA_seq (x := (fcd Tryz.f4 [1, 1, 0, 1, 0, 0, 1, 1, 0, 0, 1, 1, 1, 1, 0])) (y := (fcd Tryz.f4 [1, 1, 0, 1, 0, 0, 1, 1, 0, 0, 1, 1, 1, 1, 1])) ?_
            refine V_regionZ Γ Δ Θ [] [0, 2, 3, 5, 6, 8, 9, 10, 13, 14, 15, 16, 23, 24, 25, 26, 27, 35, 38, 40] (evs ?_)
            simp only [inpK_all hc]
            all_goals (try with_reducible (repeat' (first | apply And.intro | intro _)))
            all_goals (try (first | with_reducible refine wa_id ?_ | exact True.intro | omega | exact els_fn _ | exact tiles_fn ⟨_, _, _, _⟩ | exact srtpt_fx _ | exact exP ‹_› | (rw [srtPt_len]; done) | (rw [srtPt_len]; omega)))
            refine V_cond (evs ?_)
            refine ⟨fun hc => ?_, fun hc => ?_⟩
            · refine WA_seq (x := (fcd Tryz.f4 [1, 1, 0, 1, 0, 0, 1, 1, 0, 0, 1, 1, 1, 1, 1, 0, 0])) (y := (fcd Tryz.f4 [1, 1, 0, 1, 0, 0, 1, 1, 0, 0, 1, 1, 1, 1, 1, 0, 1])) ?_
              refine V_regionZ Γ Δ Θ [] [0, 2, 3, 5, 6, 8, 9, 10, 13, 14, 15, 16, 23, 24, 25, 26, 27, 35, 38, 40] (evs ?_)
              all_goals (try with_reducible (repeat' (first | apply And.intro | intro _)))
              all_goals (try (first | with_reducible refine wa_id ?_ | exact True.intro | omega | exact els_fn _ | exact tiles_fn ⟨_, _, _, _⟩ | exact srtpt_fx _ | exact exP ‹_› | (rw [srtPt_len]; done) | (rw [srtPt_len]; omega)))
              refine V_ret (evs ?_)
              first | exact True.intro | rfl | (rw [tf_bad ‹_› (bad_1 hc)]; done) | (rw [tf_bad ‹_› (bad_1 hc)]; rfl) | (rw [tf_bad ‹_› (bad_2 hc)]; rfl) | exact tf_fin hP hE hc hI | exact (tf_fin hP hE hc hI).2
            · refine WA_skip ?_
              refine V_regionZ Γ Δ Θ [] [0, 2, 3, 5, 6, 8, 9, 10, 13, 14, 15, 16, 23, 24, 25, 26, 27, 35, 38, 40] (evs ?_)
              all_goals (try with_reducible (repeat' (first | apply And.intro | intro _)))
              all_goals (try (first | with_reducible refine wa_id ?_ | exact True.intro | omega | exact els_fn _ | exact tiles_fn ⟨_, _, _, _⟩ | exact srtpt_fx _ | exact exP ‹_› | (rw [srtPt_len]; done) | (rw [srtPt_len]; omega)))
              refine V_next [] (k + 1) (evs ?_) ?_ ?_
              all_goals (try with_reducible (repeat' (first | apply And.intro | intro _)))
              all_goals (first | exact True.intro | omega | (first | exact w64l (n := 256) (by have := els_len a; omega) (by omega) | exact all_s (p := fun j => badT (els a) j = false) hI.2 (bad_0 ‹_› hc) _ ‹_›))
    · refine V_exit (evs ?_)
      refine WA_seq (x := (fcd Tryz.f4 [1, 1, 1, 0])) (y := (fcd Tryz.f4 [1, 1, 1, 1])) ?_
      refine V_regionZ Γ Δ Θ [] [0, 2, 3, 5, 6, 8, 9, 10, 13, 14, 15, 16, 23, 24, 25, 26, 27, 35, 38, 40] (evs ?_)
      all_goals (try with_reducible (repeat' (first | apply And.intro | intro _)))
      all_goals (try (first | with_reducible refine wa_id ?_ | exact True.intro | omega | exact els_fn _ | exact tiles_fn ⟨_, _, _, _⟩ | exact srtpt_fx _ | exact exP ‹_› | (rw [srtPt_len]; done) | (rw [srtPt_len]; omega)))
      refine WA_seq (x := (fcd Tryz.f4 [1, 1, 1, 1, 0])) (y := (fcd Tryz.f4 [1, 1, 1, 1, 1])) ?_
      refine WA_seq (x := (fcd Tryz.f4 [1, 1, 1, 1, 0, 0])) (y := (fcd Tryz.f4 [1, 1, 1, 1, 0, 1])) ?_
      refine V_regionZ Γ Δ Θ [] [0, 2, 3, 5, 6, 8, 9, 10, 13, 14, 15, 16, 23, 24, 25, 26, 27, 35, 38, 40] (evs ?_)
      all_goals (try with_reducible (repeat' (first | apply And.intro | intro _)))
      all_goals (try (first | with_reducible refine wa_id ?_ | exact True.intro | omega | exact els_fn _ | exact tiles_fn ⟨_, _, _, _⟩ | exact srtpt_fx _ | exact exP ‹_› | (rw [srtPt_len]; done) | (rw [srtPt_len]; omega)))
      refine WA_block (c := (fcd Tryz.f4 [1, 1, 1, 1, 0, 1, 0])) ?_
      refine V_loop (c := (fcd Tryz.f4 [1, 1, 1, 1, 0, 1, 0, 0])) (α := List Pt × List Pt) [9, 10, 40] [10, 38, 45, 46] (fun p => [(9, .vw 20000 0 p.1.length 2)]) (fun p => [(20000, some (true, .arr 26 2 (p.1.map ptC))), (38, some (true, .it 2 (p.2.map ptE) none))]) (fun p => (p.1 ++ p.2).Perm (ftK (els a) k)) (fun p => p.2.length) ([], ftK (els a) k) [(20000, none)] ?_ (evs ?_) ?_
      · exact List.Perm.refl _
      · (try with_reducible (repeat' (first | apply And.intro | intro _)))
        all_goals (first | exact True.intro | omega | (first | rfl))
      · rintro ⟨O, L⟩ hP
        simp only at hP
        refine WA_seq (x := (fcd Tryz.f4 [1, 1, 1, 1, 0, 1, 0, 0, 0])) (y := (fcd Tryz.f4 [1, 1, 1, 1, 0, 1, 0, 0, 1])) ?_
        refine V_regionN Γ Δ Θ [] [0, 2, 3, 5, 6, 8, 9, 10, 13, 14, 15, 16, 23, 24, 25, 26, 27, 35, 38, 40] ptE (evs ?_)
        all_goals (try with_reducible (repeat' (first | apply And.intro | intro _)))
        all_goals (try (first | with_reducible refine wa_id ?_ | exact True.intro | omega | exact els_fn _ | exact tiles_fn ⟨_, _, _, _⟩ | exact srtpt_fx _ | exact exP ‹_› | (rw [srtPt_len]; done) | (rw [srtPt_len]; omega)))
        · rename_i hE
          refine WA_seq (x := (fcd Tryz.f4 [1, 1, 1, 1, 0, 1, 0, 0, 1, 0])) (y := (fcd Tryz.f4 [1, 1, 1, 1, 0, 1, 0, 0, 1, 1])) ?_
          refine V_cond (evs ?_)
          refine ⟨fun hc => hc.elim, ?_⟩
          refine V_exit (evs ?_)
          refine WA_seq (x := (fcd Tryz.f4 [1, 1, 1, 1, 1, 0])) (y := (fcd Tryz.f4 [1, 1, 1, 1, 1, 1])) ?_
          refine V_regionZ Γ Δ Θ [] [0, 2, 3, 5, 6, 8, 9, 10, 13, 14, 15, 16, 23, 24, 25, 26, 27, 35, 38, 40] (evs ?_)
          all_goals (try with_reducible (repeat' (first | apply And.intro | intro _)))
          all_goals (try (first | with_reducible refine wa_id ?_ | exact True.intro | omega | exact els_fn _ | exact tiles_fn ⟨_, _, _, _⟩ | exact srtpt_fx _ | exact exP ‹_› | (rw [srtPt_len]; done) | (rw [srtPt_len]; omega)))
          refine WA_seq (x := (fcd Tryz.f4 [1, 1, 1, 1, 1, 1, 0])) (y := (fcd Tryz.f4 [1, 1, 1, 1, 1, 1, 1])) ?_
          refine V_regionZ Γ Δ Θ [] [0, 2, 3, 5, 6, 8, 9, 10, 13, 14, 15, 16, 23, 24, 25, 26, 27, 35, 38, 40] (evs ?_)
          all_goals (try with_reducible (repeat' (first | apply And.intro | intro _)))
          all_goals (try (first | with_reducible refine wa_id ?_ | exact True.intro | omega | exact els_fn _ | exact tiles_fn ⟨_, _, _, _⟩ | exact srtpt_fx _ | exact exP ‹_› | (rw [srtPt_len]; done) | (rw [srtPt_len]; omega)))
          refine V_ret (evs ?_)
          first | exact True.intro | rfl | (rw [tf_bad ‹_› (bad_1 hc)]; done) | (rw [tf_bad ‹_› (bad_1 hc)]; rfl) | (rw [tf_bad ‹_› (bad_2 hc)]; rfl) | exact tf_fin hP hE hc hI | exact (tf_fin hP hE hc hI).2
        · rename_i y j hY
          have hY2 := at_E hY
          refine WA_seq (x := (fcd Tryz.f4 [1, 1, 1, 1, 0, 1, 0, 0, 1, 0])) (y := (fcd Tryz.f4 [1, 1, 1, 1, 0, 1, 0, 0, 1, 1])) ?_
          refine V_cond (evs ?_)
          refine ⟨?_, fun hc => hc.elim⟩
          refine WA_skip ?_
          refine WA_block (c := (fcd Tryz.f4 [1, 1, 1, 1, 0, 1, 0, 0, 1, 1, 0])) ?_
          refine WA_seq (x := (fcd Tryz.f4 [1, 1, 1, 1, 0, 1, 0, 0, 1, 1, 0, 0])) (y := (fcd Tryz.f4 [1, 1, 1, 1, 0, 1, 0, 0, 1, 1, 0, 1])) ?_
          refine V_regionZ Γ Δ Θ [] [0, 2, 3, 5, 6, 8, 9, 10, 13, 14, 15, 16, 23, 24, 25, 26, 27, 35, 38, 40] (evs ?_)
          all_goals (try with_reducible (repeat' (first | apply And.intro | intro _)))
          all_goals (try (first | with_reducible refine wa_id ?_ | exact True.intro | omega | exact els_fn _ | exact tiles_fn ⟨_, _, _, _⟩ | exact srtpt_fx _ | exact exP ‹_› | (rw [srtPt_len]; done) | (rw [srtPt_len]; omega)))
          refine V_regionZ Γ Δ Θ [] [0, 2, 3, 5, 6, 8, 9, 10, 13, 14, 15, 16, 23, 24, 25, 26, 27, 35, 38, 40] (evs ?_)
          have hpl := hP.length_eq
          have hfl := ft_le hI.2
          simp only [List.length_append] at hpl
          all_goals (try with_reducible (repeat' (first | apply And.intro | intro _)))
          all_goals (try (first | with_reducible refine wa_id ?_ | exact True.intro | omega | exact els_fn _ | exact tiles_fn ⟨_, _, _, _⟩ | exact srtpt_fx _ | exact exP ‹_› | (rw [srtPt_len]; done) | (rw [srtPt_len]; omega)))
          refine V_next [(20000, some 46)] (O ++ [y], L.eraseIdx j) (evs ?_) ?_ ?_
          all_goals (try with_reducible (repeat' (first | apply And.intro | intro _)))
          all_goals (first | exact True.intro | omega | (first | rfl | exact perm_er hP hY2 | exact er_len hY2 | (simp; done) | (rw [er_E]; done)))

end Go.S03

