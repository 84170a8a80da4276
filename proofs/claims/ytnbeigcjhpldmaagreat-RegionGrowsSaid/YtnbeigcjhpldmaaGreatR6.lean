import Derived.Test.YtnbeigcjhpldmaaGreatR5
import Derived.Test.YtnbeigcjhpldmaaGreatA1
set_option linter.unusedSimpArgs false
set_option linter.unusedVariables false
set_option linter.unusedSimpArgs false
set_option linter.unusedVariables false
namespace Go.S03
open Go.RowKit Go.Proofs Go.Eng Go.Rect
set_option maxHeartbeats 20000000 in
set_option maxRecDepth 100000 in
theorem rtl_fn (a : List Rc) : Eng.Fn Tryz.prog 5 [.sl 4 (a.map rcC)] (.own 26 2 ((tilesF a).map ptC)) := by
  refine Eng.Fn.by (fn := Tryz.f5) 174 [.tmp 2] Tryz.func5 rfl Tryz.ntmps5 rfl (by simp) fun w0 G0 => ?_
  refine WA_seq (x := (fcd Tryz.f5 [0])) (y := (fcd Tryz.f5 [1])) ?_
  refine V_regionX Γ Δ [] [0, 2, 3, 4, 5, 6, 7, 8, 9, 10, 11, 12, 13, 14, 18, 19, 20, 76, 77, 78, 95, 99, 117, 137, 143, 163] (evs ?_)
  all_goals (try with_reducible (repeat' (first | apply And.intro | intro _)))
  all_goals (try (first | with_reducible refine wa_id ?_ | exact True.intro | omega | exact part_fn _ | exact Fn.nil1 4 (build_fn _ [] _ (trL_wd a) (fun r h => by cases h) (trL_ln a) (by simp))))
  refine WA_seq (x := (fcd Tryz.f5 [1, 0])) (y := (fcd Tryz.f5 [1, 1])) ?_
  refine V_regionX Γ Δ [] [0, 2, 3, 4, 5, 6, 7, 8, 9, 10, 11, 12, 13, 14, 18, 19, 20, 76, 77, 78, 95, 99, 117, 137, 143, 163] (evs ?_)
  all_goals (try with_reducible (repeat' (first | apply And.intro | intro _)))
  all_goals (try (first | with_reducible refine wa_id ?_ | exact True.intro | exact part_fn _ | omega | exact part_fn _ | exact Fn.nil1 4 (build_fn _ [] _ (trL_wd a) (fun r h => by cases h) (trL_ln a) (by simp))))
  refine WA_seq (x := (fcd Tryz.f5 [1, 1, 0])) (y := (fcd Tryz.f5 [1, 1, 1])) ?_
  refine WA_seq (x := (fcd Tryz.f5 [1, 1, 0, 0])) (y := (fcd Tryz.f5 [1, 1, 0, 1])) ?_
  refine V_regionX Γ Δ [] [0, 2, 3, 4, 5, 6, 7, 8, 9, 10, 11, 12, 13, 14, 18, 19, 20, 76, 77, 78, 95, 99, 117, 137, 143, 163] (evs ?_)
  all_goals (try with_reducible (repeat' (first | apply And.intro | intro _)))
  all_goals (try (first | with_reducible refine wa_id ?_ | exact True.intro | omega | exact part_fn _ | exact Fn.nil1 4 (build_fn _ [] _ (trL_wd a) (fun r h => by cases h) (trL_ln a) (by simp))))
  refine WA_block (c := (fcd Tryz.f5 [1, 1, 0, 1, 0])) ?_
  refine V_loop (c := (fcd Tryz.f5 [1, 1, 0, 1, 0, 0])) (α := Nat) [4, 5, 6, 19, 20] [11600, 12700, 12701, 12702, 12703, 13300, 13301, 13302, 13303, 15000, 15001, 15002, 15003, 16600, 16601, 16602, 16603] (fun k => [(19, .dat (.i (k : Int)))]) (fun k => [(11600, some (true, .arr 34 4 ((trK (els a) k).map rcC)))]) (fun k => k ≤ (els a).length) (fun k => (els a).length - k) 0 [] ?_ (evs ?_) ?_
  · exact Nat.zero_le _
  · (try with_reducible (repeat' (first | apply And.intro | intro _)))
    all_goals (first | exact True.intro | omega | (first | rfl | (rw [trK_0]; done)))
  · intro k hI
    refine WA_seq (x := (fcd Tryz.f5 [1, 1, 0, 1, 0, 0, 0])) (y := (fcd Tryz.f5 [1, 1, 0, 1, 0, 0, 1])) ?_
    refine V_regionX Γ Δ [] [0, 2, 3, 4, 5, 6, 7, 8, 9, 10, 11, 12, 13, 14, 18, 19, 20, 76, 77, 78, 95, 99, 117, 137, 143, 163] (evs ?_)
    all_goals (try with_reducible (repeat' (first | apply And.intro | intro _)))
    all_goals (try (first | with_reducible refine wa_id ?_ | exact True.intro | omega | exact part_fn _ | exact Fn.nil1 4 (build_fn _ [] _ (trL_wd a) (fun r h => by cases h) (trL_ln a) (by simp))))
    refine WA_seq (x := (fcd Tryz.f5 [1, 1, 0, 1, 0, 0, 1, 0])) (y := (fcd Tryz.f5 [1, 1, 0, 1, 0, 0, 1, 1])) ?_
    refine V_cond (evs ?_)
    refine ⟨fun hc => ?_, fun hc => ?_⟩
    · refine WA_skip ?_
      refine WA_seq (x := (fcd Tryz.f5 [1, 1, 0, 1, 0, 0, 1, 1, 0])) (y := (fcd Tryz.f5 [1, 1, 0, 1, 0, 0, 1, 1, 1])) ?_
      refine WA_block (c := (fcd Tryz.f5 [1, 1, 0, 1, 0, 0, 1, 1, 0, 0])) ?_
      refine WA_seq (x := (fcd Tryz.f5 [1, 1, 0, 1, 0, 0, 1, 1, 0, 0, 0])) (y := (fcd Tryz.f5 [1, 1, 0, 1, 0, 0, 1, 1, 0, 0, 1])) ?_
      refine V_regionX Γ Δ [] [0, 2, 3, 4, 5, 6, 7, 8, 9, 10, 11, 12, 13, 14, 18, 19, 20, 76, 77, 78, 95, 99, 117, 137, 143, 163] (evs ?_)
      all_goals (try with_reducible (repeat' (first | apply And.intro | intro _)))
      all_goals (try (first | with_reducible refine wa_id ?_ | exact True.intro | omega | exact part_fn _ | exact Fn.nil1 4 (build_fn _ [] _ (trL_wd a) (fun r h => by cases h) (trL_ln a) (by simp))))
      refine WA_seq (x := (fcd Tryz.f5 [1, 1, 0, 1, 0, 0, 1, 1, 0, 0, 1, 0])) (y := (fcd Tryz.f5 [1, 1, 0, 1, 0, 0, 1, 1, 0, 0, 1, 1])) ?_
      refine V_draw Γ [] [0, 2, 3, 4, 5, 6, 7, 8, 9, 10, 11, 12, 13, 14, 18, 19, 20, 76, 77, 78, 95, 99, 117, 137, 143, 163] mixed (by kernel_rfl) (evs ?_)
      have ht1 := trK_at ‹(k : Int) < ((els a).length : Int)›
      have ht2 := trK_len (l := els a) hI
      try simp only [ht1]
      have hq := wd_at (els_wd a) ‹(k : Int) < _›
      all_goals (try with_reducible (repeat' (first | apply And.intro | intro _)))
      all_goals (try (first | with_reducible refine wa_id ?_ | exact True.intro | exact rfloor_fn _ _ (by omega) (by omega) | omega | exact part_fn _ | exact Fn.nil1 4 (build_fn _ [] _ (trL_wd a) (fun r h => by cases h) (trL_ln a) (by simp))))
      refine V_draw Γ [] [0, 2, 3, 4, 5, 6, 7, 8, 9, 10, 11, 12, 13, 14, 18, 19, 20, 76, 77, 78, 95, 99, 117, 137, 143, 163] mixed (by kernel_rfl) (evs ?_)
      try simp only [ht1]
      have tb1 := tile_bt ((els a).getD k zR).x
      have tb2 := tile_bt ((els a).getD k zR).y
      have tb3 := tile_bt (((els a).getD k zR).x + ((els a).getD k zR).w - 1)
      have tb4 := tile_bt (((els a).getD k zR).y + ((els a).getD k zR).h - 1)
      (try simp (maxSteps := 10000000) (disch := omega) only [w64, toNs, toNp1])
      all_goals (try with_reducible (repeat' (first | apply And.intro | intro _)))
      all_goals (try (first | with_reducible refine wa_id ?_ | exact True.intro | exact rfloor_fn _ _ (by omega) (by omega) | omega | exact part_fn _ | exact Fn.nil1 4 (build_fn _ [] _ (trL_wd a) (fun r h => by cases h) (trL_ln a) (by simp))))
      simp only [fl16t]
      (try simp (maxSteps := 10000000) (disch := omega) only [w64, toNs, toNp1])
      refine V_regionX Γ Δ [] [0, 2, 3, 4, 5, 6, 7, 8, 9, 10, 11, 12, 13, 14, 18, 19, 20, 76, 77, 78, 95, 99, 117, 137, 143, 163] (evs ?_)
      all_goals (try with_reducible (repeat' (first | apply And.intro | intro _)))
      all_goals (try (first | with_reducible refine wa_id ?_ | exact True.intro | omega | exact part_fn _ | exact Fn.nil1 4 (build_fn _ [] _ (trL_wd a) (fun r h => by cases h) (trL_ln a) (by simp))))
      refine V_next [] (k + 1) (evs ?_) ?_ ?_
      all_goals (try with_reducible (repeat' (first | apply And.intro | intro _)))
      all_goals (first | exact True.intro | omega | (first | rfl | exact w64l (n := 256) (by have := els_len a; omega) (by omega) | exact trK_t ‹_›))
    · refine V_exit (evs ?_)
      refine WA_seq (x := (fcd Tryz.f5 [1, 1, 1, 0])) (y := (fcd Tryz.f5 [1, 1, 1, 1])) ?_
      refine V_regionX Γ Δ [] [0, 2, 3, 4, 5, 6, 7, 8, 9, 10, 11, 12, 13, 14, 18, 19, 20, 76, 77, 78, 95, 99, 117, 137, 143, 163] (evs ?_)
      have htl := trL_eq a
      have htn := tlC_ln a
      simp only [trK_all hc, tkT, mapRc]
      all_goals (try with_reducible (repeat' (first | apply And.intro | intro _)))
      all_goals (try (first | with_reducible refine wa_id ?_ | exact True.intro | exact build_fn _ _ _ (by assumption) (by assumption) (by assumption) (by assumption) | omega | exact part_fn _ | exact Fn.nil1 4 (build_fn _ [] _ (trL_wd a) (fun r h => by cases h) (trL_ln a) (by simp))))
      simp only [bld_tl]
      refine WA_seq (x := (fcd Tryz.f5 [1, 1, 1, 1, 0])) (y := (fcd Tryz.f5 [1, 1, 1, 1, 1])) ?_
      refine V_regionX Γ Δ [] [0, 2, 3, 4, 5, 6, 7, 8, 9, 10, 11, 12, 13, 14, 18, 19, 20, 76, 77, 78, 95, 99, 117, 137, 143, 163] (evs ?_)
      all_goals (try with_reducible (repeat' (first | apply And.intro | intro _)))
      all_goals (try (first | with_reducible refine wa_id ?_ | exact True.intro | omega | exact part_fn _ | exact Fn.nil1 4 (build_fn _ [] _ (trL_wd a) (fun r h => by cases h) (trL_ln a) (by simp))))
      refine WA_seq (x := (fcd Tryz.f5 [1, 1, 1, 1, 1, 0])) (y := (fcd Tryz.f5 [1, 1, 1, 1, 1, 1])) ?_
      refine WA_seq (x := (fcd Tryz.f5 [1, 1, 1, 1, 1, 0, 0])) (y := (fcd Tryz.f5 [1, 1, 1, 1, 1, 0, 1])) ?_
      refine V_regionX Γ Δ [] [0, 2, 3, 4, 5, 6, 7, 8, 9, 10, 11, 12, 13, 14, 18, 19, 20, 76, 77, 78, 95, 99, 117, 137, 143, 163] (evs ?_)
      all_goals (try with_reducible (repeat' (first | apply And.intro | intro _)))
      all_goals (try (first | with_reducible refine wa_id ?_ | exact True.intro | omega | exact part_fn _ | exact Fn.nil1 4 (build_fn _ [] _ (trL_wd a) (fun r h => by cases h) (trL_ln a) (by simp))))
      refine WA_block (c := (fcd Tryz.f5 [1, 1, 1, 1, 1, 0, 1, 0])) ?_
      refine V_loop (c := (fcd Tryz.f5 [1, 1, 1, 1, 1, 0, 1, 0, 0])) (α := Nat) [7, 8, 77, 78] [] (fun k => [(77, .dat (.i (k : Int))), (7, .dat (.i (arK (tlC a) k)))]) (fun k => []) (fun k => k ≤ (tlC a).length) (fun k => (tlC a).length - k) 0 [] ?_ (evs ?_) ?_
      · exact Nat.zero_le _
      · (try with_reducible (repeat' (first | apply And.intro | intro _)))
        all_goals (first | exact True.intro | omega | (first | rfl))
      · intro k hI
        refine WA_seq (x := (fcd Tryz.f5 [1, 1, 1, 1, 1, 0, 1, 0, 0, 0])) (y := (fcd Tryz.f5 [1, 1, 1, 1, 1, 0, 1, 0, 0, 1])) ?_
        refine V_regionX Γ Δ [] [0, 2, 3, 4, 5, 6, 7, 8, 9, 10, 11, 12, 13, 14, 18, 19, 20, 76, 77, 78, 95, 99, 117, 137, 143, 163] (evs ?_)
        all_goals (try with_reducible (repeat' (first | apply And.intro | intro _)))
        all_goals (try (first | with_reducible refine wa_id ?_ | exact True.intro | omega | exact part_fn _ | exact Fn.nil1 4 (build_fn _ [] _ (trL_wd a) (fun r h => by cases h) (trL_ln a) (by simp))))
        refine WA_seq (x := (fcd Tryz.f5 [1, 1, 1, 1, 1, 0, 1, 0, 0, 1, 0])) (y := (fcd Tryz.f5 [1, 1, 1, 1, 1, 0, 1, 0, 0, 1, 1])) ?_
        refine V_cond (evs ?_)
        refine ⟨fun hc => ?_, fun hc => ?_⟩
        · refine WA_skip ?_
          refine WA_seq (x := (fcd Tryz.f5 [1, 1, 1, 1, 1, 0, 1, 0, 0, 1, 1, 0])) (y := (fcd Tryz.f5 [1, 1, 1, 1, 1, 0, 1, 0, 0, 1, 1, 1])) ?_
          refine WA_block (c := (fcd Tryz.f5 [1, 1, 1, 1, 1, 0, 1, 0, 0, 1, 1, 0, 0])) ?_
          refine WA_seq (x := (fcd Tryz.f5 [1, 1, 1, 1, 1, 0, 1, 0, 0, 1, 1, 0, 0, 0])) (y := (fcd Tryz.f5 [1, 1, 1, 1, 1, 0, 1, 0, 0, 1, 1, 0, 0, 1])) ?_
          refine V_regionX Γ Δ [] [0, 2, 3, 4, 5, 6, 7, 8, 9, 10, 11, 12, 13, 14, 18, 19, 20, 76, 77, 78, 95, 99, 117, 137, 143, 163] (evs ?_)
          all_goals (try with_reducible (repeat' (first | apply And.intro | intro _)))
          all_goals (try (first | with_reducible refine wa_id ?_ | exact True.intro | omega | exact part_fn _ | exact Fn.nil1 4 (build_fn _ [] _ (trL_wd a) (fun r h => by cases h) (trL_ln a) (by simp))))
          refine V_draw Γ [] [0, 2, 3, 4, 5, 6, 7, 8, 9, 10, 11, 12, 13, 14, 18, 19, 20, 76, 77, 78, 95, 99, 117, 137, 143, 163] mixed (by kernel_rfl) (evs ?_)
          have hp := cwh_tl a k
          simp only [hp]
          all_goals (try with_reducible (repeat' (first | apply And.intro | intro _)))
          all_goals (try (first | with_reducible refine wa_id ?_ | exact True.intro | omega | exact part_fn _ | exact Fn.nil1 4 (build_fn _ [] _ (trL_wd a) (fun r h => by cases h) (trL_ln a) (by simp))))
          refine V_regionX Γ Δ [] [0, 2, 3, 4, 5, 6, 7, 8, 9, 10, 11, 12, 13, 14, 18, 19, 20, 76, 77, 78, 95, 99, 117, 137, 143, 163] (evs ?_)
          all_goals (try with_reducible (repeat' (first | apply And.intro | intro _)))
          all_goals (try (first | with_reducible refine wa_id ?_ | exact True.intro | omega | exact part_fn _ | exact Fn.nil1 4 (build_fn _ [] _ (trL_wd a) (fun r h => by cases h) (trL_ln a) (by simp))))
          refine V_next [] (k + 1) (evs ?_) ?_ ?_
          all_goals (try with_reducible (repeat' (first | apply And.intro | intro _)))
          all_goals (first | exact True.intro | omega | (first | rfl | exact w64l (n := 17179869184) (by omega) (by omega) | (rw [arK_st ‹_›]; done)))
        · refine V_exit (evs ?_)
          refine WA_seq (x := (fcd Tryz.f5 [1, 1, 1, 1, 1, 1, 0])) (y := (fcd Tryz.f5 [1, 1, 1, 1, 1, 1, 1])) ?_
          refine WA_seq (x := (fcd Tryz.f5 [1, 1, 1, 1, 1, 1, 0, 0])) (y := (fcd Tryz.f5 [1, 1, 1, 1, 1, 1, 0, 1])) ?_
          refine V_regionX Γ Δ [] [0, 2, 3, 4, 5, 6, 7, 8, 9, 10, 11, 12, 13, 14, 18, 19, 20, 76, 77, 78, 95, 99, 117, 137, 143, 163] (evs ?_)
          have hke : k = (tlC a).length := by omega
          subst hke
          all_goals (try with_reducible (repeat' (first | apply And.intro | intro _)))
          all_goals (try (first | with_reducible refine wa_id ?_ | exact True.intro | omega | exact part_fn _ | exact Fn.nil1 4 (build_fn _ [] _ (trL_wd a) (fun r h => by cases h) (trL_ln a) (by simp))))
          refine V_cond (evs ?_)
          refine ⟨fun hc => ?_, fun hc => ?_⟩
          · refine WA_seq (x := (fcd Tryz.f5 [1, 1, 1, 1, 1, 1, 0, 1, 0, 0])) (y := (fcd Tryz.f5 [1, 1, 1, 1, 1, 1, 0, 1, 0, 1])) ?_
            refine V_regionX Γ Δ [] [0, 2, 3, 4, 5, 6, 7, 8, 9, 10, 11, 12, 13, 14, 18, 19, 20, 76, 77, 78, 95, 99, 117, 137, 143, 163] (evs ?_)
            all_goals (try with_reducible (repeat' (first | apply And.intro | intro _)))
            all_goals (try (first | with_reducible refine wa_id ?_ | exact True.intro | omega | exact part_fn _ | exact Fn.nil1 4 (build_fn _ [] _ (trL_wd a) (fun r h => by cases h) (trL_ln a) (by simp))))
            refine V_ret (evs ?_)
            first | exact True.intro | rfl | (rw [tz_no hc]; done) | (rw [tz_no hc]; rfl) | (rw [tl_fin hI hc hty]; done) | exact ⟨congrArg List.length (tl_fin hI hc hty), congrArg _ (tl_fin hI hc hty)⟩
          · refine WA_skip ?_
            refine WA_seq (x := (fcd Tryz.f5 [1, 1, 1, 1, 1, 1, 1, 0])) (y := (fcd Tryz.f5 [1, 1, 1, 1, 1, 1, 1, 1])) ?_
            refine V_regionX Γ Δ [] [0, 2, 3, 4, 5, 6, 7, 8, 9, 10, 11, 12, 13, 14, 18, 19, 20, 76, 77, 78, 95, 99, 117, 137, 143, 163] (evs ?_)
            have hty := tz_yes (a := a) (by omega)
            have hty2 := hty.2
            all_goals (try with_reducible (repeat' (first | apply And.intro | intro _)))
            all_goals (try (first | with_reducible refine wa_id ?_ | exact True.intro | omega | exact part_fn _ | exact Fn.nil1 4 (build_fn _ [] _ (trL_wd a) (fun r h => by cases h) (trL_ln a) (by simp))))
            refine WA_seq (x := (fcd Tryz.f5 [1, 1, 1, 1, 1, 1, 1, 1, 0])) (y := (fcd Tryz.f5 [1, 1, 1, 1, 1, 1, 1, 1, 1])) ?_
            refine WA_seq (x := (fcd Tryz.f5 [1, 1, 1, 1, 1, 1, 1, 1, 0, 0])) (y := (fcd Tryz.f5 [1, 1, 1, 1, 1, 1, 1, 1, 0, 1])) ?_
            refine V_regionX Γ Δ [] [0, 2, 3, 4, 5, 6, 7, 8, 9, 10, 11, 12, 13, 14, 18, 19, 20, 76, 77, 78, 95, 99, 117, 137, 143, 163] (evs ?_)
            all_goals (try with_reducible (repeat' (first | apply And.intro | intro _)))
            all_goals (try (first | with_reducible refine wa_id ?_ | exact True.intro | omega | exact part_fn _ | exact Fn.nil1 4 (build_fn _ [] _ (trL_wd a) (fun r h => by cases h) (trL_ln a) (by simp))))
            refine WA_block (c := (fcd Tryz.f5 [1, 1, 1, 1, 1, 1, 1, 1, 0, 1, 0])) ?_
            refine V_loop (c := (fcd Tryz.f5 [1, 1, 1, 1, 1, 1, 1, 1, 0, 1, 0, 0])) (α := Nat) [9, 10, 11, 12, 13, 14, 99, 117, 137, 143, 163] [170, 171] (fun m => [(10, .dat (.i (tI a m : Int))), (9, .vw 20000 0 (tP1 a m).length 2)]) (fun m => [(20000, some (true, .arr 26 2 ((tP1 a m).map ptC)))]) (fun m => m ≤ (tlS a).length) (fun m => (tlS a).length - m) 0 [(20000, none)] ?_ (evs ?_) ?_
            · exact Nat.zero_le _
            · (try with_reducible (repeat' (first | apply And.intro | intro _)))
              all_goals (first | exact True.intro | omega | (first | rfl))
            · intro m hI
              refine WA_seq (x := (fcd Tryz.f5 [1, 1, 1, 1, 1, 1, 1, 1, 0, 1, 0, 0, 0])) (y := (fcd Tryz.f5 [1, 1, 1, 1, 1, 1, 1, 1, 0, 1, 0, 0, 1])) ?_
              refine WA_seq (x := (fcd Tryz.f5 [1, 1, 1, 1, 1, 1, 1, 1, 0, 1, 0, 0, 0, 0])) (y := (fcd Tryz.f5 [1, 1, 1, 1, 1, 1, 1, 1, 0, 1, 0, 0, 0, 1])) ?_
              refine V_regionX Γ Δ [] [0, 2, 3, 4, 5, 6, 7, 8, 9, 10, 11, 12, 13, 14, 18, 19, 20, 76, 77, 78, 95, 99, 117, 137, 143, 163] (evs ?_)
              all_goals (try with_reducible (repeat' (first | apply And.intro | intro _)))
              all_goals (try (first | with_reducible refine wa_id ?_ | exact True.intro | omega | exact part_fn _ | exact Fn.nil1 4 (build_fn _ [] _ (trL_wd a) (fun r h => by cases h) (trL_ln a) (by simp))))
              refine V_cond (evs ?_)
              refine ⟨fun hc => ?_, fun hc => ?_⟩
              · refine WA_skip ?_
                refine WA_block (c := (fcd Tryz.f5 [1, 1, 1, 1, 1, 1, 1, 1, 0, 1, 0, 0, 1, 0])) ?_
                refine WA_seq (x := (fcd Tryz.f5 [1, 1, 1, 1, 1, 1, 1, 1, 0, 1, 0, 0, 1, 0, 0])) (y := (fcd Tryz.f5 [1, 1, 1, 1, 1, 1, 1, 1, 0, 1, 0, 0, 1, 0, 1])) ?_
                refine V_regionX Γ Δ [] [0, 2, 3, 4, 5, 6, 7, 8, 9, 10, 11, 12, 13, 14, 18, 19, 20, 76, 77, 78, 95, 99, 117, 137, 143, 163] (evs ?_)
                have hm := tI_m hI hc
                have hle := tI_le hm
                have hps := tB_ps hm
                have hbb := tB_bd hm
                have h0 := tC_0 hm
                all_goals (try with_reducible (repeat' (first | apply And.intro | intro _)))
                all_goals (try (first | with_reducible refine wa_id ?_ | exact True.intro | omega | exact part_fn _ | exact Fn.nil1 4 (build_fn _ [] _ (trL_wd a) (fun r h => by cases h) (trL_ln a) (by simp))))
                refine WA_seq (x := (fcd Tryz.f5 [1, 1, 1, 1, 1, 1, 1, 1, 0, 1, 0, 0, 1, 0, 1, 0])) (y := (fcd Tryz.f5 [1, 1, 1, 1, 1, 1, 1, 1, 0, 1, 0, 0, 1, 0, 1, 1])) ?_
                refine WA_block (c := (fcd Tryz.f5 [1, 1, 1, 1, 1, 1, 1, 1, 0, 1, 0, 0, 1, 0, 1, 0, 0])) ?_
                refine V_loop (c := (fcd Tryz.f5 [1, 1, 1, 1, 1, 1, 1, 1, 0, 1, 0, 0, 1, 0, 1, 0, 0, 0])) (α := Nat) [11, 117] [] (fun k => [(11, .dat (.i (k : Int)))]) (fun k => []) (fun k => tI a m ≤ k ∧ k ≤ tI a m + (tB a m).rs.length) (fun k => tI a m + (tB a m).rs.length - k) (tI a m) [] ?_ (evs ?_) ?_
                · exact ⟨Nat.le_refl _, by omega⟩
                · (try with_reducible (repeat' (first | apply And.intro | intro _)))
                  all_goals (first | exact True.intro | omega | (first | rfl))
                · intro k hK
                  refine WA_seq (x := (fcd Tryz.f5 [1, 1, 1, 1, 1, 1, 1, 1, 0, 1, 0, 0, 1, 0, 1, 0, 0, 0, 0])) (y := (fcd Tryz.f5 [1, 1, 1, 1, 1, 1, 1, 1, 0, 1, 0, 0, 1, 0, 1, 0, 0, 0, 1])) ?_
                  refine WA_seq (x := (fcd Tryz.f5 [1, 1, 1, 1, 1, 1, 1, 1, 0, 1, 0, 0, 1, 0, 1, 0, 0, 0, 0, 0])) (y := (fcd Tryz.f5 [1, 1, 1, 1, 1, 1, 1, 1, 0, 1, 0, 0, 1, 0, 1, 0, 0, 0, 0, 1])) ?_
                  refine V_draw Γ [] [0, 2, 3, 4, 5, 6, 7, 8, 9, 10, 11, 12, 13, 14, 18, 19, 20, 76, 77, 78, 95, 99, 117, 137, 143, 163] mixed (by kernel_rfl) (evs ?_)
                  all_goals (try with_reducible (repeat' (first | apply And.intro | intro _)))
                  all_goals (try (first | with_reducible refine wa_id ?_ | exact True.intro | omega | exact part_fn _ | exact Fn.nil1 4 (build_fn _ [] _ (trL_wd a) (fun r h => by cases h) (trL_ln a) (by simp))))
                  refine V_cond (evs ?_)
                  refine ⟨fun hc => ?_, fun hc => ?_⟩
                  · refine WA_skip ?_
                    refine WA_block (c := (fcd Tryz.f5 [1, 1, 1, 1, 1, 1, 1, 1, 0, 1, 0, 0, 1, 0, 1, 0, 0, 0, 1, 0])) ?_
                    refine V_regionX Γ Δ [] [0, 2, 3, 4, 5, 6, 7, 8, 9, 10, 11, 12, 13, 14, 18, 19, 20, 76, 77, 78, 95, 99, 117, 137, 143, 163] (evs ?_)
                    have hkk := tk_y hm hK.2 hc.1 hc.2
                    all_goals (try with_reducible (repeat' (first | apply And.intro | intro _)))
                    all_goals (try (first | with_reducible refine wa_id ?_ | exact True.intro | omega | exact part_fn _ | exact Fn.nil1 4 (build_fn _ [] _ (trL_wd a) (fun r h => by cases h) (trL_ln a) (by simp))))
                    refine V_next [] (k + 1) (evs ?_) ?_ ?_
                    all_goals (try with_reducible (repeat' (first | apply And.intro | intro _)))
                    all_goals (first | exact True.intro | omega | (first | exact w64l (n := 17179869184) (by omega) (by omega)))
                  · refine V_exit (evs ?_)
                    refine WA_seq (x := (fcd Tryz.f5 [1, 1, 1, 1, 1, 1, 1, 1, 0, 1, 0, 0, 1, 0, 1, 1, 0])) (y := (fcd Tryz.f5 [1, 1, 1, 1, 1, 1, 1, 1, 0, 1, 0, 0, 1, 0, 1, 1, 1])) ?_
                    refine WA_seq (x := (fcd Tryz.f5 [1, 1, 1, 1, 1, 1, 1, 1, 0, 1, 0, 0, 1, 0, 1, 1, 0, 0])) (y := (fcd Tryz.f5 [1, 1, 1, 1, 1, 1, 1, 1, 0, 1, 0, 0, 1, 0, 1, 1, 0, 1])) ?_
                    refine V_regionX Γ Δ [] [0, 2, 3, 4, 5, 6, 7, 8, 9, 10, 11, 12, 13, 14, 18, 19, 20, 76, 77, 78, 95, 99, 117, 137, 143, 163] (evs ?_)
                    have hke := tk_n hm hK.1 hK.2 (nd_of hc)
                    subst hke
                    all_goals (try with_reducible (repeat' (first | apply And.intro | intro _)))
                    all_goals (try (first | with_reducible refine wa_id ?_ | exact True.intro | omega | exact part_fn _ | exact Fn.nil1 4 (build_fn _ [] _ (trL_wd a) (fun r h => by cases h) (trL_ln a) (by simp))))
                    refine WA_block (c := (fcd Tryz.f5 [1, 1, 1, 1, 1, 1, 1, 1, 0, 1, 0, 0, 1, 0, 1, 1, 0, 1, 0])) ?_
                    refine V_loop (c := (fcd Tryz.f5 [1, 1, 1, 1, 1, 1, 1, 1, 0, 1, 0, 0, 1, 0, 1, 1, 0, 1, 0, 0])) (α := Nat) [9, 12, 13, 14, 137, 143, 163] [170, 171, 20000] (fun u => [(12, .dat (.i ((tB a m).y + (u : Int)))), (9, .vw 20001 0 (tP2 a m u).length 2)]) (fun u => [(20001, some (true, .arr 26 2 ((tP2 a m u).map ptC)))]) (fun u => (u : Int) ≤ (tB a m).h) (fun u => (tB a m).h.toNat - u) 0 [(20001, some 20000)] ?_ (evs ?_) ?_
                    · omega
                    · (try with_reducible (repeat' (first | apply And.intro | intro _)))
                      all_goals (first | exact True.intro | omega | (first | rfl | exact ty0 hm | (rw [tP2_0]; done)))
                    · intro u hU
                      refine WA_seq (x := (fcd Tryz.f5 [1, 1, 1, 1, 1, 1, 1, 1, 0, 1, 0, 0, 1, 0, 1, 1, 0, 1, 0, 0, 0])) (y := (fcd Tryz.f5 [1, 1, 1, 1, 1, 1, 1, 1, 0, 1, 0, 0, 1, 0, 1, 1, 0, 1, 0, 0, 1])) ?_
                      refine WA_seq (x := (fcd Tryz.f5 [1, 1, 1, 1, 1, 1, 1, 1, 0, 1, 0, 0, 1, 0, 1, 1, 0, 1, 0, 0, 0, 0])) (y := (fcd Tryz.f5 [1, 1, 1, 1, 1, 1, 1, 1, 0, 1, 0, 0, 1, 0, 1, 1, 0, 1, 0, 0, 0, 1])) ?_
                      refine V_draw Γ [] [0, 2, 3, 4, 5, 6, 7, 8, 9, 10, 11, 12, 13, 14, 18, 19, 20, 76, 77, 78, 95, 99, 117, 137, 143, 163] mixed (by kernel_rfl) (evs ?_)
                      simp only [h0.1, h0.2]
                      (try simp (maxSteps := 10000000) (disch := omega) only [w64, toNs, toNp1])
                      all_goals (try with_reducible (repeat' (first | apply And.intro | intro _)))
                      all_goals (try (first | with_reducible refine wa_id ?_ | exact True.intro | omega | exact part_fn _ | exact Fn.nil1 4 (build_fn _ [] _ (trL_wd a) (fun r h => by cases h) (trL_ln a) (by simp))))
                      refine V_cond (evs ?_)
                      refine ⟨fun hc => ?_, fun hc => ?_⟩
                      · refine WA_skip ?_
                        refine WA_seq (x := (fcd Tryz.f5 [1, 1, 1, 1, 1, 1, 1, 1, 0, 1, 0, 0, 1, 0, 1, 1, 0, 1, 0, 0, 1, 0])) (y := (fcd Tryz.f5 [1, 1, 1, 1, 1, 1, 1, 1, 0, 1, 0, 0, 1, 0, 1, 1, 0, 1, 0, 0, 1, 1])) ?_
                        refine WA_block (c := (fcd Tryz.f5 [1, 1, 1, 1, 1, 1, 1, 1, 0, 1, 0, 0, 1, 0, 1, 1, 0, 1, 0, 0, 1, 0, 0])) ?_
                        refine WA_seq (x := (fcd Tryz.f5 [1, 1, 1, 1, 1, 1, 1, 1, 0, 1, 0, 0, 1, 0, 1, 1, 0, 1, 0, 0, 1, 0, 0, 0])) (y := (fcd Tryz.f5 [1, 1, 1, 1, 1, 1, 1, 1, 0, 1, 0, 0, 1, 0, 1, 1, 0, 1, 0, 0, 1, 0, 0, 1])) ?_
                        refine V_regionX Γ Δ [] [0, 2, 3, 4, 5, 6, 7, 8, 9, 10, 11, 12, 13, 14, 18, 19, 20, 76, 77, 78, 95, 99, 117, 137, 143, 163] (evs ?_)
                        have huh : (u : Int) < (tB a m).h := by omega
                        all_goals (try with_reducible (repeat' (first | apply And.intro | intro _)))
                        all_goals (try (first | with_reducible refine wa_id ?_ | exact True.intro | omega | exact part_fn _ | exact Fn.nil1 4 (build_fn _ [] _ (trL_wd a) (fun r h => by cases h) (trL_ln a) (by simp))))
                        refine WA_block (c := (fcd Tryz.f5 [1, 1, 1, 1, 1, 1, 1, 1, 0, 1, 0, 0, 1, 0, 1, 1, 0, 1, 0, 0, 1, 0, 0, 1, 0])) ?_
                        refine V_loop (c := (fcd Tryz.f5 [1, 1, 1, 1, 1, 1, 1, 1, 0, 1, 0, 0, 1, 0, 1, 1, 0, 1, 0, 0, 1, 0, 0, 1, 0, 0])) (α := Nat) [9, 13, 14, 143, 163] [170, 171, 20001] (fun j => [(13, .dat (.i (j : Int))), (9, .vw 20002 0 (tP3 a m u j).length 2)]) (fun j => [(20002, some (true, .arr 26 2 ((tP3 a m u j).map ptC)))]) (fun j => tI a m ≤ j ∧ j ≤ tI a m + (tB a m).rs.length) (fun j => tI a m + (tB a m).rs.length - j) (tI a m) [(20002, some 20001)] ?_ (evs ?_) ?_
                        · exact ⟨Nat.le_refl _, by omega⟩
                        · (try with_reducible (repeat' (first | apply And.intro | intro _)))
                          all_goals (first | exact True.intro | omega | (first | rfl | (rw [tP3_0]; done)))
                        · intro j hJ
                          refine WA_seq (x := (fcd Tryz.f5 [1, 1, 1, 1, 1, 1, 1, 1, 0, 1, 0, 0, 1, 0, 1, 1, 0, 1, 0, 0, 1, 0, 0, 1, 0, 0, 0])) (y := (fcd Tryz.f5 [1, 1, 1, 1, 1, 1, 1, 1, 0, 1, 0, 0, 1, 0, 1, 1, 0, 1, 0, 0, 1, 0, 0, 1, 0, 0, 1])) ?_
                          refine WA_seq (x := (fcd Tryz.f5 [1, 1, 1, 1, 1, 1, 1, 1, 0, 1, 0, 0, 1, 0, 1, 1, 0, 1, 0, 0, 1, 0, 0, 1, 0, 0, 0, 0])) (y := (fcd Tryz.f5 [1, 1, 1, 1, 1, 1, 1, 1, 0, 1, 0, 0, 1, 0, 1, 1, 0, 1, 0, 0, 1, 0, 0, 1, 0, 0, 0, 1])) ?_
                          refine V_regionX Γ Δ [] [0, 2, 3, 4, 5, 6, 7, 8, 9, 10, 11, 12, 13, 14, 18, 19, 20, 76, 77, 78, 95, 99, 117, 137, 143, 163] (evs ?_)
                          all_goals (try with_reducible (repeat' (first | apply And.intro | intro _)))
                          all_goals (try (first | with_reducible refine wa_id ?_ | exact True.intro | omega | exact part_fn _ | exact Fn.nil1 4 (build_fn _ [] _ (trL_wd a) (fun r h => by cases h) (trL_ln a) (by simp))))
                          refine V_cond (evs ?_)
                          refine ⟨fun hc => ?_, fun hc => ?_⟩
                          · refine WA_skip ?_
                            refine WA_seq (x := (fcd Tryz.f5 [1, 1, 1, 1, 1, 1, 1, 1, 0, 1, 0, 0, 1, 0, 1, 1, 0, 1, 0, 0, 1, 0, 0, 1, 0, 0, 1, 0])) (y := (fcd Tryz.f5 [1, 1, 1, 1, 1, 1, 1, 1, 0, 1, 0, 0, 1, 0, 1, 1, 0, 1, 0, 0, 1, 0, 0, 1, 0, 0, 1, 1])) ?_
                            refine WA_block (c := (fcd Tryz.f5 [1, 1, 1, 1, 1, 1, 1, 1, 0, 1, 0, 0, 1, 0, 1, 1, 0, 1, 0, 0, 1, 0, 0, 1, 0, 0, 1, 0, 0])) ?_
                            refine WA_seq (x := (fcd Tryz.f5 [1, 1, 1, 1, 1, 1, 1, 1, 0, 1, 0, 0, 1, 0, 1, 1, 0, 1, 0, 0, 1, 0, 0, 1, 0, 0, 1, 0, 0, 0])) (y := (fcd Tryz.f5 [1, 1, 1, 1, 1, 1, 1, 1, 0, 1, 0, 0, 1, 0, 1, 1, 0, 1, 0, 0, 1, 0, 0, 1, 0, 0, 1, 0, 0, 1])) ?_
                            refine V_regionX Γ Δ [] [0, 2, 3, 4, 5, 6, 7, 8, 9, 10, 11, 12, 13, 14, 18, 19, 20, 76, 77, 78, 95, 99, 117, 137, 143, 163] (evs ?_)
                            have hj2 : j < tI a m + (tB a m).rs.length := by omega
                            have hq := wd_at (tlC_wd a) (k := j) (by omega)
                            all_goals (try with_reducible (repeat' (first | apply And.intro | intro _)))
                            all_goals (try (first | with_reducible refine wa_id ?_ | exact True.intro | omega | exact part_fn _ | exact Fn.nil1 4 (build_fn _ [] _ (trL_wd a) (fun r h => by cases h) (trL_ln a) (by simp))))
                            refine WA_block (c := (fcd Tryz.f5 [1, 1, 1, 1, 1, 1, 1, 1, 0, 1, 0, 0, 1, 0, 1, 1, 0, 1, 0, 0, 1, 0, 0, 1, 0, 0, 1, 0, 0, 1, 0])) ?_
                            refine V_loop (c := (fcd Tryz.f5 [1, 1, 1, 1, 1, 1, 1, 1, 0, 1, 0, 0, 1, 0, 1, 1, 0, 1, 0, 0, 1, 0, 0, 1, 0, 0, 1, 0, 0, 1, 0, 0])) (α := Nat) [9, 14, 163] [170, 171, 20002] (fun s => [(14, .dat (.i (((tlC a).getD j zR).x + (s : Int)))), (9, .vw 20003 0 (tP4 a m u j s).length 2)]) (fun s => [(20003, some (true, .arr 26 2 ((tP4 a m u j s).map ptC)))]) (fun s => (s : Int) ≤ ((tlC a).getD j zR).w) (fun s => ((tlC a).getD j zR).w.toNat - s) 0 [(20003, some 20002)] ?_ (evs ?_) ?_
                            · omega
                            · (try with_reducible (repeat' (first | apply And.intro | intro _)))
                              all_goals (first | exact True.intro | omega | (first | rfl | (rw [tP4_0]; done) | (simp; done)))
                            · intro s hS2
                              refine WA_seq (x := (fcd Tryz.f5 [1, 1, 1, 1, 1, 1, 1, 1, 0, 1, 0, 0, 1, 0, 1, 1, 0, 1, 0, 0, 1, 0, 0, 1, 0, 0, 1, 0, 0, 1, 0, 0, 0])) (y := (fcd Tryz.f5 [1, 1, 1, 1, 1, 1, 1, 1, 0, 1, 0, 0, 1, 0, 1, 1, 0, 1, 0, 0, 1, 0, 0, 1, 0, 0, 1, 0, 0, 1, 0, 0, 1])) ?_
                              refine WA_seq (x := (fcd Tryz.f5 [1, 1, 1, 1, 1, 1, 1, 1, 0, 1, 0, 0, 1, 0, 1, 1, 0, 1, 0, 0, 1, 0, 0, 1, 0, 0, 1, 0, 0, 1, 0, 0, 0, 0])) (y := (fcd Tryz.f5 [1, 1, 1, 1, 1, 1, 1, 1, 0, 1, 0, 0, 1, 0, 1, 1, 0, 1, 0, 0, 1, 0, 0, 1, 0, 0, 1, 0, 0, 1, 0, 0, 0, 1])) ?_
                              refine V_draw Γ [] [0, 2, 3, 4, 5, 6, 7, 8, 9, 10, 11, 12, 13, 14, 18, 19, 20, 76, 77, 78, 95, 99, 117, 137, 143, 163] mixed (by kernel_rfl) (evs ?_)
                              (try simp (maxSteps := 10000000) (disch := omega) only [w64, toNs, toNp1])
                              all_goals (try with_reducible (repeat' (first | apply And.intro | intro _)))
                              all_goals (try (first | with_reducible refine wa_id ?_ | exact True.intro | omega | exact part_fn _ | exact Fn.nil1 4 (build_fn _ [] _ (trL_wd a) (fun r h => by cases h) (trL_ln a) (by simp))))
                              refine V_cond (evs ?_)
                              refine ⟨fun hc => ?_, fun hc => ?_⟩
                              · refine WA_skip ?_
                                refine WA_seq (x := (fcd Tryz.f5 [1, 1, 1, 1, 1, 1, 1, 1, 0, 1, 0, 0, 1, 0, 1, 1, 0, 1, 0, 0, 1, 0, 0, 1, 0, 0, 1, 0, 0, 1, 0, 0, 1, 0])) (y := (fcd Tryz.f5 [1, 1, 1, 1, 1, 1, 1, 1, 0, 1, 0, 0, 1, 0, 1, 1, 0, 1, 0, 0, 1, 0, 0, 1, 0, 0, 1, 0, 0, 1, 0, 0, 1, 1])) ?_
                                refine WA_block (c := (fcd Tryz.f5 [1, 1, 1, 1, 1, 1, 1, 1, 0, 1, 0, 0, 1, 0, 1, 1, 0, 1, 0, 0, 1, 0, 0, 1, 0, 0, 1, 0, 0, 1, 0, 0, 1, 0, 0])) ?_
                                refine V_regionX Γ Δ [] [0, 2, 3, 4, 5, 6, 7, 8, 9, 10, 11, 12, 13, 14, 18, 19, 20, 76, 77, 78, 95, 99, 117, 137, 143, 163] (evs ?_)
                                have hl4 := tP4_le hm huh hJ.1 hj2 (s := s) (by omega)
                                all_goals (try with_reducible (repeat' (first | apply And.intro | intro _)))
                                all_goals (try (first | with_reducible refine wa_id ?_ | exact True.intro | omega | exact part_fn _ | exact Fn.nil1 4 (build_fn _ [] _ (trL_wd a) (fun r h => by cases h) (trL_ln a) (by simp))))
                                refine V_regionX Γ Δ [] [0, 2, 3, 4, 5, 6, 7, 8, 9, 10, 11, 12, 13, 14, 18, 19, 20, 76, 77, 78, 95, 99, 117, 137, 143, 163] (evs ?_)
                                (try simp (maxSteps := 10000000) (disch := omega) only [w64, toNs, toNp1])
                                all_goals (try with_reducible (repeat' (first | apply And.intro | intro _)))
                                all_goals (try (first | with_reducible refine wa_id ?_ | exact True.intro | omega | exact part_fn _ | exact Fn.nil1 4 (build_fn _ [] _ (trL_wd a) (fun r h => by cases h) (trL_ln a) (by simp))))
                                refine V_next [(20003, some 171)] (s + 1) (evs ?_) ?_ ?_
                                all_goals (try with_reducible (repeat' (first | apply And.intro | intro _)))
                                all_goals (first | exact True.intro | omega | (first | (rw [tP4_s, List.map_append]; rfl) | (rw [tP4_s, List.length_append]; rfl)))
                              · refine V_exit (evs ?_)
                                refine V_regionX Γ Δ [] [0, 2, 3, 4, 5, 6, 7, 8, 9, 10, 11, 12, 13, 14, 18, 19, 20, 76, 77, 78, 95, 99, 117, 137, 143, 163] (evs ?_)
                                have hse : (s : Int) = ((tlC a).getD j zR).w := by omega
                                all_goals (try with_reducible (repeat' (first | apply And.intro | intro _)))
                                all_goals (try (first | with_reducible refine wa_id ?_ | exact True.intro | omega | exact part_fn _ | exact Fn.nil1 4 (build_fn _ [] _ (trL_wd a) (fun r h => by cases h) (trL_ln a) (by simp))))
                                refine V_next [(20002, some 20003)] (j + 1) (evs ?_) ?_ ?_
                                all_goals (try with_reducible (repeat' (first | apply And.intro | intro _)))
                                all_goals (first | exact True.intro | omega | (first | exact w64l (n := 17179869184) (by omega) (by omega) | (rw [tP4_e hm hJ.1 hj2 hse]; done)))
                          · refine V_exit (evs ?_)
                            refine V_regionX Γ Δ [] [0, 2, 3, 4, 5, 6, 7, 8, 9, 10, 11, 12, 13, 14, 18, 19, 20, 76, 77, 78, 95, 99, 117, 137, 143, 163] (evs ?_)
                            have hje : j = tI a m + (tB a m).rs.length := by omega
                            subst hje
                            (try simp (maxSteps := 10000000) (disch := omega) only [w64, toNs, toNp1])
                            all_goals (try with_reducible (repeat' (first | apply And.intro | intro _)))
                            all_goals (try (first | with_reducible refine wa_id ?_ | exact True.intro | omega | exact part_fn _ | exact Fn.nil1 4 (build_fn _ [] _ (trL_wd a) (fun r h => by cases h) (trL_ln a) (by simp))))
                            refine V_next [(20001, some 20002)] (u + 1) (evs ?_) ?_ ?_
                            all_goals (try with_reducible (repeat' (first | apply And.intro | intro _)))
                            all_goals (first | exact True.intro | omega | (first | (rw [tP3_e]; done)))
                      · refine V_exit (evs ?_)
                        refine V_regionX Γ Δ [] [0, 2, 3, 4, 5, 6, 7, 8, 9, 10, 11, 12, 13, 14, 18, 19, 20, 76, 77, 78, 95, 99, 117, 137, 143, 163] (evs ?_)
                        have hue : (u : Int) = (tB a m).h := by omega
                        all_goals (try with_reducible (repeat' (first | apply And.intro | intro _)))
                        all_goals (try (first | with_reducible refine wa_id ?_ | exact True.intro | omega | exact part_fn _ | exact Fn.nil1 4 (build_fn _ [] _ (trL_wd a) (fun r h => by cases h) (trL_ln a) (by simp))))
                        refine V_next [(20000, some 20001)] (m + 1) (evs ?_) ?_ ?_
                        all_goals (try with_reducible (repeat' (first | apply And.intro | intro _)))
                        all_goals (first | exact True.intro | omega | (first | (rw [tI_s hm]; done) | (rw [tP2_e hm hue]; done)))
              · refine V_exit (evs ?_)
                refine WA_seq (x := (fcd Tryz.f5 [1, 1, 1, 1, 1, 1, 1, 1, 1, 0])) (y := (fcd Tryz.f5 [1, 1, 1, 1, 1, 1, 1, 1, 1, 1])) ?_
                refine V_regionX Γ Δ [] [0, 2, 3, 4, 5, 6, 7, 8, 9, 10, 11, 12, 13, 14, 18, 19, 20, 76, 77, 78, 95, 99, 117, 137, 143, 163] (evs ?_)
                all_goals (try with_reducible (repeat' (first | apply And.intro | intro _)))
                all_goals (try (first | with_reducible refine wa_id ?_ | exact True.intro | omega | exact part_fn _ | exact Fn.nil1 4 (build_fn _ [] _ (trL_wd a) (fun r h => by cases h) (trL_ln a) (by simp))))
                refine V_ret (evs ?_)
                first | exact True.intro | rfl | (rw [tz_no hc]; done) | (rw [tz_no hc]; rfl) | (rw [tl_fin hI hc hty]; done) | exact ⟨congrArg List.length (tl_fin hI hc hty), congrArg _ (tl_fin hI hc hty)⟩

end Go.S03

