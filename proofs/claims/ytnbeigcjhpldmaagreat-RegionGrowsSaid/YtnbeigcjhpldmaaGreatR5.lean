import Derived.Test.YtnbeigcjhpldmaaGreatR1
import Derived.Test.YtnbeigcjhpldmaaGreatR3
import Derived.Test.YtnbeigcjhpldmaaGreatR4
import Derived.Test.YtnbeigcjhpldmaaGreatFB
set_option linter.unusedSimpArgs false
set_option linter.unusedVariables false
set_option linter.unusedSimpArgs false
set_option linter.unusedVariables false
namespace Go.S03
open Go.RowKit Go.Proofs Go.Eng Go.Rect
set_option maxHeartbeats 20000000 in
set_option maxRecDepth 100000 in
theorem build_fn (a b : List Rc) (h : Int) (ha : Wd a) (hb : Wd b) (la : a.length ≤ 256) (lb : b.length ≤ 256) : Eng.Fn Tryz.prog 18 [.sl 4 (a.map rcC), .sl 4 (b.map rcC), .i h] (.own 34 4 ((bldF h a b).map rcC)) := by
  refine Eng.Fn.by (fn := Tryz.f18) 265 [.tmp 6] Tryz.func18 rfl Tryz.ntmps18 rfl (by simp) fun w0 G0 => ?_
  refine WA_seq (x := (fcd Tryz.f18 [0])) (y := (fcd Tryz.f18 [1])) ?_
  refine V_regionX Γ Δ [] [0, 1, 2, 6, 7, 8, 9, 10, 11, 12, 13, 14, 15, 16, 17, 19, 20, 21, 63, 64, 65, 114, 121, 136, 160, 212, 236, 238, 239, 240] (evs ?_)
  all_goals (try with_reducible (repeat' (first | apply And.intro | intro _)))
  all_goals (try (first | with_reducible refine wa_id ?_ | exact True.intro | omega | exact sorted_fn _ (by have := edX2_len a b m; omega) | exact sorted_fn _ (by have := edY2_len a b m; omega) | exact inside_fn _ _ _ _ _ ha hb (by omega) (by omega) | exact ralike_fn _ _ | (rw [bh_len (by omega)]; first | done | omega)))
  refine WA_seq (x := (fcd Tryz.f18 [1, 0])) (y := (fcd Tryz.f18 [1, 1])) ?_
  refine V_regionX Γ Δ [] [0, 1, 2, 6, 7, 8, 9, 10, 11, 12, 13, 14, 15, 16, 17, 19, 20, 21, 63, 64, 65, 114, 121, 136, 160, 212, 236, 238, 239, 240] (evs ?_)
  all_goals (try with_reducible (repeat' (first | apply And.intro | intro _)))
  all_goals (try (first | with_reducible refine wa_id ?_ | exact True.intro | omega | exact sorted_fn _ (by have := edX2_len a b m; omega) | exact sorted_fn _ (by have := edY2_len a b m; omega) | exact inside_fn _ _ _ _ _ ha hb (by omega) (by omega) | exact ralike_fn _ _ | (rw [bh_len (by omega)]; first | done | omega)))
  refine WA_seq (x := (fcd Tryz.f18 [1, 1, 0])) (y := (fcd Tryz.f18 [1, 1, 1])) ?_
  refine WA_seq (x := (fcd Tryz.f18 [1, 1, 0, 0])) (y := (fcd Tryz.f18 [1, 1, 0, 1])) ?_
  refine V_regionX Γ Δ [] [0, 1, 2, 6, 7, 8, 9, 10, 11, 12, 13, 14, 15, 16, 17, 19, 20, 21, 63, 64, 65, 114, 121, 136, 160, 212, 236, 238, 239, 240] (evs ?_)
  all_goals (try with_reducible (repeat' (first | apply And.intro | intro _)))
  all_goals (try (first | with_reducible refine wa_id ?_ | exact True.intro | omega | exact sorted_fn _ (by have := edX2_len a b m; omega) | exact sorted_fn _ (by have := edY2_len a b m; omega) | exact inside_fn _ _ _ _ _ ha hb (by omega) (by omega) | exact ralike_fn _ _ | (rw [bh_len (by omega)]; first | done | omega)))
  refine WA_block (c := (fcd Tryz.f18 [1, 1, 0, 1, 0])) ?_
  refine V_loop (c := (fcd Tryz.f18 [1, 1, 0, 1, 0, 0])) (α := Nat) [7, 8, 9, 20, 21] [40, 41, 59, 60] (fun k => [(20, .dat (.i (k : Int))), (7, .vw 20000 0 (edX (a.take k)).length 1), (8, .vw 20001 0 (edY (a.take k)).length 1)]) (fun k => [(20000, some (true, .arr 3 1 ((edX (a.take k)).map iC))), (20001, some (true, .arr 3 1 ((edY (a.take k)).map iC)))]) (fun k => k ≤ a.length) (fun k => a.length - k) 0 [(20000, none), (20001, none)] ?_ (evs ?_) ?_
  · exact Nat.zero_le _
  · (try with_reducible (repeat' (first | apply And.intro | intro _)))
    all_goals (first | exact True.intro | omega | (first | rfl))
  · intro k hI
    refine WA_seq (x := (fcd Tryz.f18 [1, 1, 0, 1, 0, 0, 0])) (y := (fcd Tryz.f18 [1, 1, 0, 1, 0, 0, 1])) ?_
    refine V_regionX Γ Δ [] [0, 1, 2, 6, 7, 8, 9, 10, 11, 12, 13, 14, 15, 16, 17, 19, 20, 21, 63, 64, 65, 114, 121, 136, 160, 212, 236, 238, 239, 240] (evs ?_)
    all_goals (try with_reducible (repeat' (first | apply And.intro | intro _)))
    all_goals (try (first | with_reducible refine wa_id ?_ | exact True.intro | omega | exact sorted_fn _ (by have := edX2_len a b m; omega) | exact sorted_fn _ (by have := edY2_len a b m; omega) | exact inside_fn _ _ _ _ _ ha hb (by omega) (by omega) | exact ralike_fn _ _ | (rw [bh_len (by omega)]; first | done | omega)))
    refine WA_seq (x := (fcd Tryz.f18 [1, 1, 0, 1, 0, 0, 1, 0])) (y := (fcd Tryz.f18 [1, 1, 0, 1, 0, 0, 1, 1])) ?_
    refine V_cond (evs ?_)
    refine ⟨fun hc => ?_, fun hc => ?_⟩
    · refine WA_skip ?_
      refine WA_seq (x := (fcd Tryz.f18 [1, 1, 0, 1, 0, 0, 1, 1, 0])) (y := (fcd Tryz.f18 [1, 1, 0, 1, 0, 0, 1, 1, 1])) ?_
      refine WA_block (c := (fcd Tryz.f18 [1, 1, 0, 1, 0, 0, 1, 1, 0, 0])) ?_
      refine WA_seq (x := (fcd Tryz.f18 [1, 1, 0, 1, 0, 0, 1, 1, 0, 0, 0])) (y := (fcd Tryz.f18 [1, 1, 0, 1, 0, 0, 1, 1, 0, 0, 1])) ?_
      refine V_regionX Γ Δ [] [0, 1, 2, 6, 7, 8, 9, 10, 11, 12, 13, 14, 15, 16, 17, 19, 20, 21, 63, 64, 65, 114, 121, 136, 160, 212, 236, 238, 239, 240] (evs ?_)
      all_goals (try with_reducible (repeat' (first | apply And.intro | intro _)))
      all_goals (try (first | with_reducible refine wa_id ?_ | exact True.intro | omega | exact sorted_fn _ (by have := edX2_len a b m; omega) | exact sorted_fn _ (by have := edY2_len a b m; omega) | exact inside_fn _ _ _ _ _ ha hb (by omega) (by omega) | exact ralike_fn _ _ | (rw [bh_len (by omega)]; first | done | omega)))
      refine V_drawB Γ [(18, [20000, 40]), (37, [20001, 59]), (5, []), (10, []), (15, []), (17, []), (24, []), (29, []), (34, []), (36, [])] [] [0, 1, 2, 6, 7, 8, 9, 10, 11, 12, 13, 14, 15, 16, 17, 19, 20, 21, 63, 64, 65, 114, 121, 136, 160, 212, 236, 238, 239, 240] mixed (by kernel_rfl) (evsB ?_)
      have hq := wd_at ha ‹(k : Int) < _›
      have hl := edY_len (a.take k)
      have hlx := edX_len (a.take k)
      have hm := List.length_take (i := k) (l := a)
      (try simp (maxSteps := 10000000) (disch := omega) only [w64])
      all_goals (try with_reducible (repeat' (first | apply And.intro | intro _)))
      all_goals (try (first | with_reducible refine wa_id ?_ | exact True.intro | omega | exact sorted_fn _ (by have := edX2_len a b m; omega) | exact sorted_fn _ (by have := edY2_len a b m; omega) | exact inside_fn _ _ _ _ _ ha hb (by omega) (by omega) | exact ralike_fn _ _ | (rw [bh_len (by omega)]; first | done | omega)))
      refine V_regionX Γ Δ [] [0, 1, 2, 6, 7, 8, 9, 10, 11, 12, 13, 14, 15, 16, 17, 19, 20, 21, 63, 64, 65, 114, 121, 136, 160, 212, 236, 238, 239, 240] (evs ?_)
      all_goals (try with_reducible (repeat' (first | apply And.intro | intro _)))
      all_goals (try (first | with_reducible refine wa_id ?_ | exact True.intro | omega | exact sorted_fn _ (by have := edX2_len a b m; omega) | exact sorted_fn _ (by have := edY2_len a b m; omega) | exact inside_fn _ _ _ _ _ ha hb (by omega) (by omega) | exact ralike_fn _ _ | (rw [bh_len (by omega)]; first | done | omega)))
      refine V_next [(20000, some 41), (20001, some 60)] (k + 1) (evs ?_) ?_ ?_
      all_goals (try with_reducible (repeat' (first | apply And.intro | intro _)))
      all_goals (first | exact True.intro | omega | (first | exact w64l ‹(k : Int) < _› (show a.length ≤ 281474976710656 by omega) | (rw [edY_s (by omega), List.map_append]; rfl) | (rw [edX_s (by omega), List.map_append]; rfl) | (rw [edY_s (by omega), List.length_append]; rfl) | (rw [edX_s (by omega), List.length_append]; rfl)))
    · refine V_exit (evs ?_)
      refine WA_seq (x := (fcd Tryz.f18 [1, 1, 1, 0])) (y := (fcd Tryz.f18 [1, 1, 1, 1])) ?_
      refine WA_seq (x := (fcd Tryz.f18 [1, 1, 1, 0, 0])) (y := (fcd Tryz.f18 [1, 1, 1, 0, 1])) ?_
      refine V_regionX Γ Δ [] [0, 1, 2, 6, 7, 8, 9, 10, 11, 12, 13, 14, 15, 16, 17, 19, 20, 21, 63, 64, 65, 114, 121, 136, 160, 212, 236, 238, 239, 240] (evs ?_)
      all_goals (try with_reducible (repeat' (first | apply And.intro | intro _)))
      all_goals (try (first | with_reducible refine wa_id ?_ | exact True.intro | omega | exact sorted_fn _ (by have := edX2_len a b m; omega) | exact sorted_fn _ (by have := edY2_len a b m; omega) | exact inside_fn _ _ _ _ _ ha hb (by omega) (by omega) | exact ralike_fn _ _ | (rw [bh_len (by omega)]; first | done | omega)))
      refine WA_block (c := (fcd Tryz.f18 [1, 1, 1, 0, 1, 0])) ?_
      refine V_loop (c := (fcd Tryz.f18 [1, 1, 1, 0, 1, 0, 0])) (α := Nat) [7, 8, 10, 64, 65] [84, 85, 103, 104, 20000, 20001] (fun m => [(64, .dat (.i (m : Int))), (7, .vw 20002 0 (edX2 a b m).length 1), (8, .vw 20003 0 (edY2 a b m).length 1)]) (fun m => [(20002, some (true, .arr 3 1 ((edX2 a b m).map iC))), (20003, some (true, .arr 3 1 ((edY2 a b m).map iC)))]) (fun m => m ≤ b.length) (fun m => b.length - m) 0 [(20002, some 20000), (20003, some 20001)] ?_ (evs ?_) ?_
      · exact Nat.zero_le _
      · (try with_reducible (repeat' (first | apply And.intro | intro _)))
        all_goals (first | exact True.intro | omega | (first | rfl | (rw [edY2_0 hc]; done) | (rw [edX2_0 hc]; done)))
      · intro m hI
        refine WA_seq (x := (fcd Tryz.f18 [1, 1, 1, 0, 1, 0, 0, 0])) (y := (fcd Tryz.f18 [1, 1, 1, 0, 1, 0, 0, 1])) ?_
        refine V_regionX Γ Δ [] [0, 1, 2, 6, 7, 8, 9, 10, 11, 12, 13, 14, 15, 16, 17, 19, 20, 21, 63, 64, 65, 114, 121, 136, 160, 212, 236, 238, 239, 240] (evs ?_)
        all_goals (try with_reducible (repeat' (first | apply And.intro | intro _)))
        all_goals (try (first | with_reducible refine wa_id ?_ | exact True.intro | omega | exact sorted_fn _ (by have := edX2_len a b m; omega) | exact sorted_fn _ (by have := edY2_len a b m; omega) | exact inside_fn _ _ _ _ _ ha hb (by omega) (by omega) | exact ralike_fn _ _ | (rw [bh_len (by omega)]; first | done | omega)))
        refine WA_seq (x := (fcd Tryz.f18 [1, 1, 1, 0, 1, 0, 0, 1, 0])) (y := (fcd Tryz.f18 [1, 1, 1, 0, 1, 0, 0, 1, 1])) ?_
        refine V_cond (evs ?_)
        refine ⟨fun hc => ?_, fun hc => ?_⟩
        · refine WA_skip ?_
          refine WA_seq (x := (fcd Tryz.f18 [1, 1, 1, 0, 1, 0, 0, 1, 1, 0])) (y := (fcd Tryz.f18 [1, 1, 1, 0, 1, 0, 0, 1, 1, 1])) ?_
          refine WA_block (c := (fcd Tryz.f18 [1, 1, 1, 0, 1, 0, 0, 1, 1, 0, 0])) ?_
          refine WA_seq (x := (fcd Tryz.f18 [1, 1, 1, 0, 1, 0, 0, 1, 1, 0, 0, 0])) (y := (fcd Tryz.f18 [1, 1, 1, 0, 1, 0, 0, 1, 1, 0, 0, 1])) ?_
          refine V_regionX Γ Δ [] [0, 1, 2, 6, 7, 8, 9, 10, 11, 12, 13, 14, 15, 16, 17, 19, 20, 21, 63, 64, 65, 114, 121, 136, 160, 212, 236, 238, 239, 240] (evs ?_)
          all_goals (try with_reducible (repeat' (first | apply And.intro | intro _)))
          all_goals (try (first | with_reducible refine wa_id ?_ | exact True.intro | omega | exact sorted_fn _ (by have := edX2_len a b m; omega) | exact sorted_fn _ (by have := edY2_len a b m; omega) | exact inside_fn _ _ _ _ _ ha hb (by omega) (by omega) | exact ralike_fn _ _ | (rw [bh_len (by omega)]; first | done | omega)))
          refine V_drawB Γ [(18, [20002, 84]), (37, [20003, 103]), (5, []), (10, []), (15, []), (17, []), (24, []), (29, []), (34, []), (36, [])] [] [0, 1, 2, 6, 7, 8, 9, 10, 11, 12, 13, 14, 15, 16, 17, 19, 20, 21, 63, 64, 65, 114, 121, 136, 160, 212, 236, 238, 239, 240] mixed (by kernel_rfl) (evsB ?_)
          have hq := wd_at hb ‹(m : Int) < _›
          have hl := edY2_len a b m
          have hlx := edX2_len a b m
          (try simp (maxSteps := 10000000) (disch := omega) only [w64])
          all_goals (try with_reducible (repeat' (first | apply And.intro | intro _)))
          all_goals (try (first | with_reducible refine wa_id ?_ | exact True.intro | omega | exact sorted_fn _ (by have := edX2_len a b m; omega) | exact sorted_fn _ (by have := edY2_len a b m; omega) | exact inside_fn _ _ _ _ _ ha hb (by omega) (by omega) | exact ralike_fn _ _ | (rw [bh_len (by omega)]; first | done | omega)))
          refine V_regionX Γ Δ [] [0, 1, 2, 6, 7, 8, 9, 10, 11, 12, 13, 14, 15, 16, 17, 19, 20, 21, 63, 64, 65, 114, 121, 136, 160, 212, 236, 238, 239, 240] (evs ?_)
          all_goals (try with_reducible (repeat' (first | apply And.intro | intro _)))
          all_goals (try (first | with_reducible refine wa_id ?_ | exact True.intro | omega | exact sorted_fn _ (by have := edX2_len a b m; omega) | exact sorted_fn _ (by have := edY2_len a b m; omega) | exact inside_fn _ _ _ _ _ ha hb (by omega) (by omega) | exact ralike_fn _ _ | (rw [bh_len (by omega)]; first | done | omega)))
          refine V_next [(20002, some 85), (20003, some 104)] (m + 1) (evs ?_) ?_ ?_
          all_goals (try with_reducible (repeat' (first | apply And.intro | intro _)))
          all_goals (first | exact True.intro | omega | (first | exact w64l ‹(m : Int) < _› (show b.length ≤ 281474976710656 by omega) | (rw [edY2_s ‹_›, List.map_append]; rfl) | (rw [edX2_s ‹_›, List.map_append]; rfl) | (rw [edY2_s ‹_›, List.length_append]; rfl) | (rw [edX2_s ‹_›, List.length_append]; rfl)))
        · refine V_exit (evs ?_)
          refine WA_seq (x := (fcd Tryz.f18 [1, 1, 1, 1, 0])) (y := (fcd Tryz.f18 [1, 1, 1, 1, 1])) ?_
          refine V_regionX Γ Δ [] [0, 1, 2, 6, 7, 8, 9, 10, 11, 12, 13, 14, 15, 16, 17, 19, 20, 21, 63, 64, 65, 114, 121, 136, 160, 212, 236, 238, 239, 240] (evs ?_)
          all_goals (try with_reducible (repeat' (first | apply And.intro | intro _)))
          all_goals (try (first | with_reducible refine wa_id ?_ | exact True.intro | exact sorted_fn _ (by assumption) | omega | exact sorted_fn _ (by have := edX2_len a b m; omega) | exact sorted_fn _ (by have := edY2_len a b m; omega) | exact inside_fn _ _ _ _ _ ha hb (by omega) (by omega) | exact ralike_fn _ _ | (rw [bh_len (by omega)]; first | done | omega)))
          simp only [edX2_all hc, edY2_allU hc]
          refine WA_seq (x := (fcd Tryz.f18 [1, 1, 1, 1, 1, 0])) (y := (fcd Tryz.f18 [1, 1, 1, 1, 1, 1])) ?_
          refine V_regionX Γ Δ [] [0, 1, 2, 6, 7, 8, 9, 10, 11, 12, 13, 14, 15, 16, 17, 19, 20, 21, 63, 64, 65, 114, 121, 136, 160, 212, 236, 238, 239, 240] (evs ?_)
          all_goals (try with_reducible (repeat' (first | apply And.intro | intro _)))
          all_goals (try (first | with_reducible refine wa_id ?_ | exact True.intro | omega | exact sorted_fn _ (by have := edX2_len a b m; omega) | exact sorted_fn _ (by have := edY2_len a b m; omega) | exact inside_fn _ _ _ _ _ ha hb (by omega) (by omega) | exact ralike_fn _ _ | (rw [bh_len (by omega)]; first | done | omega)))
          refine WA_seq (x := (fcd Tryz.f18 [1, 1, 1, 1, 1, 1, 0])) (y := (fcd Tryz.f18 [1, 1, 1, 1, 1, 1, 1])) ?_
          refine WA_seq (x := (fcd Tryz.f18 [1, 1, 1, 1, 1, 1, 0, 0])) (y := (fcd Tryz.f18 [1, 1, 1, 1, 1, 1, 0, 1])) ?_
          refine V_regionX Γ Δ [] [0, 1, 2, 6, 7, 8, 9, 10, 11, 12, 13, 14, 15, 16, 17, 19, 20, 21, 63, 64, 65, 114, 121, 136, 160, 212, 236, 238, 239, 240] (evs ?_)
          all_goals (try with_reducible (repeat' (first | apply And.intro | intro _)))
          all_goals (try (first | with_reducible refine wa_id ?_ | exact True.intro | omega | exact sorted_fn _ (by have := edX2_len a b m; omega) | exact sorted_fn _ (by have := edY2_len a b m; omega) | exact inside_fn _ _ _ _ _ ha hb (by omega) (by omega) | exact ralike_fn _ _ | (rw [bh_len (by omega)]; first | done | omega)))
          refine WA_block (c := (fcd Tryz.f18 [1, 1, 1, 1, 1, 1, 0, 1, 0])) ?_
          refine V_loop (c := (fcd Tryz.f18 [1, 1, 1, 1, 1, 1, 0, 1, 0, 0])) (α := Nat) [11, 12, 13, 14, 15, 16, 17, 114, 121, 136, 160, 212, 236, 238, 239, 240] [208, 209, 260, 23500, 23501, 23502, 23503, 33500, 33501, 33502, 33503] (fun j => [(13, .dat (.i (j : Int))), (11, .vw 20004 0 (oB h a b j).length 4), (12, .vw 20005 0 (lB h a b j).length 4)]) (fun j => [(20004, some (true, .arr 34 4 ((oB h a b j).map rcC))), (20005, some (true, .arr 34 4 ((lB h a b j).map rcC)))]) (fun j => j ≤ (bY a b).length - 1) (fun j => (bY a b).length - 1 - j) 0 [(20004, none), (20005, none)] ?_ (evs ?_) ?_
          · exact Nat.zero_le _
          · (try with_reducible (repeat' (first | apply And.intro | intro _)))
            all_goals (first | exact True.intro | omega | (first | rfl))
          · intro j hJ
            refine WA_seq (x := (fcd Tryz.f18 [1, 1, 1, 1, 1, 1, 0, 1, 0, 0, 0])) (y := (fcd Tryz.f18 [1, 1, 1, 1, 1, 1, 0, 1, 0, 0, 1])) ?_
            refine WA_seq (x := (fcd Tryz.f18 [1, 1, 1, 1, 1, 1, 0, 1, 0, 0, 0, 0])) (y := (fcd Tryz.f18 [1, 1, 1, 1, 1, 1, 0, 1, 0, 0, 0, 1])) ?_
            refine V_regionX Γ Δ [] [0, 1, 2, 6, 7, 8, 9, 10, 11, 12, 13, 14, 15, 16, 17, 19, 20, 21, 63, 64, 65, 114, 121, 136, 160, 212, 236, 238, 239, 240] (evs ?_)
            have hyl := bY_len la lb
            (try simp (maxSteps := 10000000) (disch := omega) only [w64, toNs, toNp1])
            all_goals (try with_reducible (repeat' (first | apply And.intro | intro _)))
            all_goals (try (first | with_reducible refine wa_id ?_ | exact True.intro | omega | exact sorted_fn _ (by have := edX2_len a b m; omega) | exact sorted_fn _ (by have := edY2_len a b m; omega) | exact inside_fn _ _ _ _ _ ha hb (by omega) (by omega) | exact ralike_fn _ _ | (rw [bh_len (by omega)]; first | done | omega)))
            refine V_cond (evs ?_)
            refine ⟨fun hc => ?_, fun hc => ?_⟩
            · refine WA_skip ?_
              refine WA_seq (x := (fcd Tryz.f18 [1, 1, 1, 1, 1, 1, 0, 1, 0, 0, 1, 0])) (y := (fcd Tryz.f18 [1, 1, 1, 1, 1, 1, 0, 1, 0, 0, 1, 1])) ?_
              refine WA_block (c := (fcd Tryz.f18 [1, 1, 1, 1, 1, 1, 0, 1, 0, 0, 1, 0, 0])) ?_
              refine WA_seq (x := (fcd Tryz.f18 [1, 1, 1, 1, 1, 1, 0, 1, 0, 0, 1, 0, 0, 0])) (y := (fcd Tryz.f18 [1, 1, 1, 1, 1, 1, 0, 1, 0, 0, 1, 0, 0, 1])) ?_
              refine V_regionX Γ Δ [] [0, 1, 2, 6, 7, 8, 9, 10, 11, 12, 13, 14, 15, 16, 17, 19, 20, 21, 63, 64, 65, 114, 121, 136, 160, 212, 236, 238, 239, 240] (evs ?_)
              all_goals (try with_reducible (repeat' (first | apply And.intro | intro _)))
              all_goals (try (first | with_reducible refine wa_id ?_ | exact True.intro | omega | exact sorted_fn _ (by have := edX2_len a b m; omega) | exact sorted_fn _ (by have := edY2_len a b m; omega) | exact inside_fn _ _ _ _ _ ha hb (by omega) (by omega) | exact ralike_fn _ _ | (rw [bh_len (by omega)]; first | done | omega)))
              refine WA_seq (x := (fcd Tryz.f18 [1, 1, 1, 1, 1, 1, 0, 1, 0, 0, 1, 0, 0, 1, 0])) (y := (fcd Tryz.f18 [1, 1, 1, 1, 1, 1, 0, 1, 0, 0, 1, 0, 0, 1, 1])) ?_
              refine WA_seq (x := (fcd Tryz.f18 [1, 1, 1, 1, 1, 1, 0, 1, 0, 0, 1, 0, 0, 1, 0, 0])) (y := (fcd Tryz.f18 [1, 1, 1, 1, 1, 1, 0, 1, 0, 0, 1, 0, 0, 1, 0, 1])) ?_
              refine V_regionX Γ Δ [] [0, 1, 2, 6, 7, 8, 9, 10, 11, 12, 13, 14, 15, 16, 17, 19, 20, 21, 63, 64, 65, 114, 121, 136, 160, 212, 236, 238, 239, 240] (evs ?_)
              all_goals (try with_reducible (repeat' (first | apply And.intro | intro _)))
              all_goals (try (first | with_reducible refine wa_id ?_ | exact True.intro | omega | exact sorted_fn _ (by have := edX2_len a b m; omega) | exact sorted_fn _ (by have := edY2_len a b m; omega) | exact inside_fn _ _ _ _ _ ha hb (by omega) (by omega) | exact ralike_fn _ _ | (rw [bh_len (by omega)]; first | done | omega)))
              refine WA_block (c := (fcd Tryz.f18 [1, 1, 1, 1, 1, 1, 0, 1, 0, 0, 1, 0, 0, 1, 0, 1, 0])) ?_
              refine V_loop (c := (fcd Tryz.f18 [1, 1, 1, 1, 1, 1, 0, 1, 0, 0, 1, 0, 0, 1, 0, 1, 0, 0])) (α := Nat) [14, 15, 16, 121, 136, 160] [208, 209, 23500, 23501, 23502, 23503] (fun i => [(15, .dat (.i (i : Int))), (14, .vw 20006 0 (rrK h a b j i).length 4)]) (fun i => [(20006, some (true, .arr 34 4 ((rrK h a b j i).map rcC)))]) (fun i => i ≤ (bX a b).length - 1) (fun i => (bX a b).length - 1 - i) 0 [(20006, none)] ?_ (evs ?_) ?_
              · exact Nat.zero_le _
              · (try with_reducible (repeat' (first | apply And.intro | intro _)))
                all_goals (first | exact True.intro | omega | (first | rfl))
              · intro i hI2
                refine WA_seq (x := (fcd Tryz.f18 [1, 1, 1, 1, 1, 1, 0, 1, 0, 0, 1, 0, 0, 1, 0, 1, 0, 0, 0])) (y := (fcd Tryz.f18 [1, 1, 1, 1, 1, 1, 0, 1, 0, 0, 1, 0, 0, 1, 0, 1, 0, 0, 1])) ?_
                refine WA_seq (x := (fcd Tryz.f18 [1, 1, 1, 1, 1, 1, 0, 1, 0, 0, 1, 0, 0, 1, 0, 1, 0, 0, 0, 0])) (y := (fcd Tryz.f18 [1, 1, 1, 1, 1, 1, 0, 1, 0, 0, 1, 0, 0, 1, 0, 1, 0, 0, 0, 1])) ?_
                refine V_regionX Γ Δ [] [0, 1, 2, 6, 7, 8, 9, 10, 11, 12, 13, 14, 15, 16, 17, 19, 20, 21, 63, 64, 65, 114, 121, 136, 160, 212, 236, 238, 239, 240] (evs ?_)
                have hxl := bX_len la lb
                (try simp (maxSteps := 10000000) (disch := omega) only [w64, toNs, toNp1])
                all_goals (try with_reducible (repeat' (first | apply And.intro | intro _)))
                all_goals (try (first | with_reducible refine wa_id ?_ | exact True.intro | omega | exact sorted_fn _ (by have := edX2_len a b m; omega) | exact sorted_fn _ (by have := edY2_len a b m; omega) | exact inside_fn _ _ _ _ _ ha hb (by omega) (by omega) | exact ralike_fn _ _ | (rw [bh_len (by omega)]; first | done | omega)))
                refine V_cond (evs ?_)
                refine ⟨fun hc => ?_, fun hc => ?_⟩
                · refine WA_skip ?_
                  refine WA_seq (x := (fcd Tryz.f18 [1, 1, 1, 1, 1, 1, 0, 1, 0, 0, 1, 0, 0, 1, 0, 1, 0, 0, 1, 0])) (y := (fcd Tryz.f18 [1, 1, 1, 1, 1, 1, 0, 1, 0, 0, 1, 0, 0, 1, 0, 1, 0, 0, 1, 1])) ?_
                  refine WA_block (c := (fcd Tryz.f18 [1, 1, 1, 1, 1, 1, 0, 1, 0, 0, 1, 0, 0, 1, 0, 1, 0, 0, 1, 0, 0])) ?_
                  refine WA_seq (x := (fcd Tryz.f18 [1, 1, 1, 1, 1, 1, 0, 1, 0, 0, 1, 0, 0, 1, 0, 1, 0, 0, 1, 0, 0, 0])) (y := (fcd Tryz.f18 [1, 1, 1, 1, 1, 1, 0, 1, 0, 0, 1, 0, 0, 1, 0, 1, 0, 0, 1, 0, 0, 1])) ?_
                  refine WA_seq (x := (fcd Tryz.f18 [1, 1, 1, 1, 1, 1, 0, 1, 0, 0, 1, 0, 0, 1, 0, 1, 0, 0, 1, 0, 0, 0, 0])) (y := (fcd Tryz.f18 [1, 1, 1, 1, 1, 1, 0, 1, 0, 0, 1, 0, 0, 1, 0, 1, 0, 0, 1, 0, 0, 0, 1])) ?_
                  refine V_draw Γ [] [0, 1, 2, 6, 7, 8, 9, 10, 11, 12, 13, 14, 15, 16, 17, 19, 20, 21, 63, 64, 65, 114, 121, 136, 160, 212, 236, 238, 239, 240] mixed (by kernel_rfl) (evs ?_)
                  have hyl := bY_len la lb
                  have hxl := bX_len la lb
                  have hys := bY_ys ha hb
                  have hxs := bX_ys ha hb
                  have hyj := hys.at (k := j) (by omega)
                  have hyj1 := hys.at (k := j + 1) (by omega)
                  have hya := asc_at hys.asc (k := j) (by omega)
                  have hxi := hxs.at (k := i) (by omega)
                  have hxi1 := hxs.at (k := i + 1) (by omega)
                  have hxa := asc_at hxs.asc (k := i) (by omega)
                  have hrl := rr_len (how := h) (a := a) (b := b) (i := i) (j := j)
                  have hrb := rr_bd (how := h) (j := j) (i := i) ha hb (by omega) ((rrK h a b j i).length - 1)
                  (try simp (maxSteps := 10000000) (disch := omega) only [w64, toNs, toNp1])
                  all_goals (try with_reducible (repeat' (first | apply And.intro | intro _)))
                  all_goals (try (first | with_reducible refine wa_id ?_ | exact True.intro | exact inside_fn _ _ _ _ _ (by assumption) (by assumption) (by omega) (by omega) | omega | exact sorted_fn _ (by have := edX2_len a b m; omega) | exact sorted_fn _ (by have := edY2_len a b m; omega) | exact inside_fn _ _ _ _ _ ha hb (by omega) (by omega) | exact ralike_fn _ _ | (rw [bh_len (by omega)]; first | done | omega)))
                  refine V_cond (evs ?_)
                  refine ⟨fun hc => ?_, fun hc => ?_⟩
                  · refine V_exit (evs ?_)
                    refine V_regionX Γ Δ [] [0, 1, 2, 6, 7, 8, 9, 10, 11, 12, 13, 14, 15, 16, 17, 19, 20, 21, 63, 64, 65, 114, 121, 136, 160, 212, 236, 238, 239, 240] (evs ?_)
                    all_goals (try with_reducible (repeat' (first | apply And.intro | intro _)))
                    all_goals (try (first | with_reducible refine wa_id ?_ | exact True.intro | omega | exact sorted_fn _ (by have := edX2_len a b m; omega) | exact sorted_fn _ (by have := edY2_len a b m; omega) | exact inside_fn _ _ _ _ _ ha hb (by omega) (by omega) | exact ralike_fn _ _ | (rw [bh_len (by omega)]; first | done | omega)))
                    refine V_next [] (i + 1) (evs ?_) ?_ ?_
                    all_goals (try with_reducible (repeat' (first | apply And.intro | intro _)))
                    all_goals (first | exact True.intro | omega | (first | (rw [wadd (by omega)]; done) | (rw [rr_c hc]; done) | exact (rr_a ‹_› hc).1 | exact (rr_a ‹_› hc).2 | exact (rr_b ‹_› (by simpa using hc)).1 | exact (rr_b ‹_› (by simpa using hc)).2))
                  · refine WA_skip ?_
                    refine WA_seq (x := (fcd Tryz.f18 [1, 1, 1, 1, 1, 1, 0, 1, 0, 0, 1, 0, 0, 1, 0, 1, 0, 0, 1, 0, 0, 1, 0])) (y := (fcd Tryz.f18 [1, 1, 1, 1, 1, 1, 0, 1, 0, 0, 1, 0, 0, 1, 0, 1, 0, 0, 1, 0, 0, 1, 1])) ?_
                    refine V_regionX Γ Δ [] [0, 1, 2, 6, 7, 8, 9, 10, 11, 12, 13, 14, 15, 16, 17, 19, 20, 21, 63, 64, 65, 114, 121, 136, 160, 212, 236, 238, 239, 240] (evs ?_)
                    all_goals (try with_reducible (repeat' (first | apply And.intro | intro _)))
                    all_goals (try (first | with_reducible refine wa_id ?_ | exact True.intro | omega | exact sorted_fn _ (by have := edX2_len a b m; omega) | exact sorted_fn _ (by have := edY2_len a b m; omega) | exact inside_fn _ _ _ _ _ ha hb (by omega) (by omega) | exact ralike_fn _ _ | (rw [bh_len (by omega)]; first | done | omega)))
                    refine WA_seq (x := (fcd Tryz.f18 [1, 1, 1, 1, 1, 1, 0, 1, 0, 0, 1, 0, 0, 1, 0, 1, 0, 0, 1, 0, 0, 1, 1, 0])) (y := (fcd Tryz.f18 [1, 1, 1, 1, 1, 1, 0, 1, 0, 0, 1, 0, 0, 1, 0, 1, 0, 0, 1, 0, 0, 1, 1, 1])) ?_
                    refine V_draw Γ [] [0, 1, 2, 6, 7, 8, 9, 10, 11, 12, 13, 14, 15, 16, 17, 19, 20, 21, 63, 64, 65, 114, 121, 136, 160, 212, 236, 238, 239, 240] mixed (by kernel_rfl) (evs ?_)
                    have hyl := bY_len la lb
                    have hxl := bX_len la lb
                    have hys := bY_ys ha hb
                    have hxs := bX_ys ha hb
                    have hyj := hys.at (k := j) (by omega)
                    have hyj1 := hys.at (k := j + 1) (by omega)
                    have hya := asc_at hys.asc (k := j) (by omega)
                    have hxi := hxs.at (k := i) (by omega)
                    have hxi1 := hxs.at (k := i + 1) (by omega)
                    have hxa := asc_at hxs.asc (k := i) (by omega)
                    have hrl := rr_len (how := h) (a := a) (b := b) (i := i) (j := j)
                    have hrb := rr_bd (how := h) (j := j) (i := i) ha hb (by omega) ((rrK h a b j i).length - 1)
                    (try simp (maxSteps := 10000000) (disch := omega) only [w64, toNs, toNp1])
                    all_goals (try with_reducible (repeat' (first | apply And.intro | intro _)))
                    all_goals (try (first | with_reducible refine wa_id ?_ | exact True.intro | omega | exact sorted_fn _ (by have := edX2_len a b m; omega) | exact sorted_fn _ (by have := edY2_len a b m; omega) | exact inside_fn _ _ _ _ _ ha hb (by omega) (by omega) | exact ralike_fn _ _ | (rw [bh_len (by omega)]; first | done | omega)))
                    refine V_cond (evs ?_)
                    refine ⟨fun hc => ?_, fun hc => ?_⟩
                    · refine V_draw Γ [] [0, 1, 2, 6, 7, 8, 9, 10, 11, 12, 13, 14, 15, 16, 17, 19, 20, 21, 63, 64, 65, 114, 121, 136, 160, 212, 236, 238, 239, 240] mixed (by kernel_rfl) (evs ?_)
                      have hyl := bY_len la lb
                      have hxl := bX_len la lb
                      have hys := bY_ys ha hb
                      have hxs := bX_ys ha hb
                      have hyj := hys.at (k := j) (by omega)
                      have hyj1 := hys.at (k := j + 1) (by omega)
                      have hya := asc_at hys.asc (k := j) (by omega)
                      have hxi := hxs.at (k := i) (by omega)
                      have hxi1 := hxs.at (k := i + 1) (by omega)
                      have hxa := asc_at hxs.asc (k := i) (by omega)
                      have hrl := rr_len (how := h) (a := a) (b := b) (i := i) (j := j)
                      have hrb := rr_bd (how := h) (j := j) (i := i) ha hb (by omega) ((rrK h a b j i).length - 1)
                      (try simp (maxSteps := 10000000) (disch := omega) only [w64, toNs, toNp1])
                      all_goals (try with_reducible (repeat' (first | apply And.intro | intro _)))
                      all_goals (try (first | with_reducible refine wa_id ?_ | exact True.intro | omega | exact sorted_fn _ (by have := edX2_len a b m; omega) | exact sorted_fn _ (by have := edY2_len a b m; omega) | exact inside_fn _ _ _ _ _ ha hb (by omega) (by omega) | exact ralike_fn _ _ | (rw [bh_len (by omega)]; first | done | omega)))
                      refine V_regionX Γ Δ [] [0, 1, 2, 6, 7, 8, 9, 10, 11, 12, 13, 14, 15, 16, 17, 19, 20, 21, 63, 64, 65, 114, 121, 136, 160, 212, 236, 238, 239, 240] (evs ?_)
                      all_goals (try with_reducible (repeat' (first | apply And.intro | intro _)))
                      all_goals (try (first | with_reducible refine wa_id ?_ | exact True.intro | omega | exact sorted_fn _ (by have := edX2_len a b m; omega) | exact sorted_fn _ (by have := edY2_len a b m; omega) | exact inside_fn _ _ _ _ _ ha hb (by omega) (by omega) | exact ralike_fn _ _ | (rw [bh_len (by omega)]; first | done | omega)))
                      refine V_next [] (i + 1) (evs ?_) ?_ ?_
                      all_goals (try with_reducible (repeat' (first | apply And.intro | intro _)))
                      all_goals (first | exact True.intro | omega | (first | (rw [wadd (by omega)]; done) | (rw [rr_c hc]; done) | exact (rr_a ‹_› hc).1 | exact (rr_a ‹_› hc).2 | exact (rr_b ‹_› (by simpa using hc)).1 | exact (rr_b ‹_› (by simpa using hc)).2))
                    · refine V_draw Γ [] [0, 1, 2, 6, 7, 8, 9, 10, 11, 12, 13, 14, 15, 16, 17, 19, 20, 21, 63, 64, 65, 114, 121, 136, 160, 212, 236, 238, 239, 240] mixed (by kernel_rfl) (evs ?_)
                      have hyl := bY_len la lb
                      have hxl := bX_len la lb
                      have hys := bY_ys ha hb
                      have hxs := bX_ys ha hb
                      have hyj := hys.at (k := j) (by omega)
                      have hyj1 := hys.at (k := j + 1) (by omega)
                      have hya := asc_at hys.asc (k := j) (by omega)
                      have hxi := hxs.at (k := i) (by omega)
                      have hxi1 := hxs.at (k := i + 1) (by omega)
                      have hxa := asc_at hxs.asc (k := i) (by omega)
                      have hrl := rr_len (how := h) (a := a) (b := b) (i := i) (j := j)
                      have hrb := rr_bd (how := h) (j := j) (i := i) ha hb (by omega) ((rrK h a b j i).length - 1)
                      (try simp (maxSteps := 10000000) (disch := omega) only [w64, toNs, toNp1])
                      all_goals (try with_reducible (repeat' (first | apply And.intro | intro _)))
                      all_goals (try (first | with_reducible refine wa_id ?_ | exact True.intro | omega | exact sorted_fn _ (by have := edX2_len a b m; omega) | exact sorted_fn _ (by have := edY2_len a b m; omega) | exact inside_fn _ _ _ _ _ ha hb (by omega) (by omega) | exact ralike_fn _ _ | (rw [bh_len (by omega)]; first | done | omega)))
                      refine V_regionX Γ Δ [] [0, 1, 2, 6, 7, 8, 9, 10, 11, 12, 13, 14, 15, 16, 17, 19, 20, 21, 63, 64, 65, 114, 121, 136, 160, 212, 236, 238, 239, 240] (evs ?_)
                      all_goals (try with_reducible (repeat' (first | apply And.intro | intro _)))
                      all_goals (try (first | with_reducible refine wa_id ?_ | exact True.intro | omega | exact sorted_fn _ (by have := edX2_len a b m; omega) | exact sorted_fn _ (by have := edY2_len a b m; omega) | exact inside_fn _ _ _ _ _ ha hb (by omega) (by omega) | exact ralike_fn _ _ | (rw [bh_len (by omega)]; first | done | omega)))
                      refine V_next [(20006, some 209)] (i + 1) (evs ?_) ?_ ?_
                      all_goals (try with_reducible (repeat' (first | apply And.intro | intro _)))
                      all_goals (first | exact True.intro | omega | (first | (rw [wadd (by omega)]; done) | (rw [rr_c hc]; done) | exact (rr_a ‹_› hc).1 | exact (rr_a ‹_› hc).2 | exact (rr_b ‹_› (by simpa using hc)).1 | exact (rr_b ‹_› (by simpa using hc)).2))
                · refine V_exit (evs ?_)
                  refine WA_seq (x := (fcd Tryz.f18 [1, 1, 1, 1, 1, 1, 0, 1, 0, 0, 1, 0, 0, 1, 1, 0])) (y := (fcd Tryz.f18 [1, 1, 1, 1, 1, 1, 0, 1, 0, 0, 1, 0, 0, 1, 1, 1])) ?_
                  refine WA_seq (x := (fcd Tryz.f18 [1, 1, 1, 1, 1, 1, 0, 1, 0, 0, 1, 0, 0, 1, 1, 0, 0])) (y := (fcd Tryz.f18 [1, 1, 1, 1, 1, 1, 0, 1, 0, 0, 1, 0, 0, 1, 1, 0, 1])) ?_
                  refine V_regionX Γ Δ [] [0, 1, 2, 6, 7, 8, 9, 10, 11, 12, 13, 14, 15, 16, 17, 19, 20, 21, 63, 64, 65, 114, 121, 136, 160, 212, 236, 238, 239, 240] (evs ?_)
                  all_goals (try with_reducible (repeat' (first | apply And.intro | intro _)))
                  all_goals (try (first | with_reducible refine wa_id ?_ | exact True.intro | omega | exact sorted_fn _ (by have := edX2_len a b m; omega) | exact sorted_fn _ (by have := edY2_len a b m; omega) | exact inside_fn _ _ _ _ _ ha hb (by omega) (by omega) | exact ralike_fn _ _ | (rw [bh_len (by omega)]; first | done | omega)))
                  refine V_cond (evs ?_)
                  refine ⟨fun hc => ?_, fun hc => ?_⟩
                  · refine V_exit (evs ?_)
                    refine V_regionX Γ Δ [] [0, 1, 2, 6, 7, 8, 9, 10, 11, 12, 13, 14, 15, 16, 17, 19, 20, 21, 63, 64, 65, 114, 121, 136, 160, 212, 236, 238, 239, 240] (evs ?_)
                    all_goals (try with_reducible (repeat' (first | apply And.intro | intro _)))
                    all_goals (try (first | with_reducible refine wa_id ?_ | exact True.intro | omega | exact sorted_fn _ (by have := edX2_len a b m; omega) | exact sorted_fn _ (by have := edY2_len a b m; omega) | exact inside_fn _ _ _ _ _ ha hb (by omega) (by omega) | exact ralike_fn _ _ | (rw [bh_len (by omega)]; first | done | omega)))
                    refine V_next [] (j + 1) (evs ?_) ?_ ?_
                    all_goals (try with_reducible (repeat' (first | apply And.intro | intro _)))
                    all_goals (first | exact True.intro | omega | (first | (rw [wadd (by omega)]; done) | (rw [(lb_0 hI2 ‹((bX a b).length : Int) ≤ _› ‹_›).1]; done) | (rw [(lb_0 hI2 ‹((bX a b).length : Int) ≤ _› ‹_›).2]; done) | exact congrArg _ (lb_y (i := i) ha hb la lb (by omega) hI2 ‹((bX a b).length : Int) ≤ _› ‹¬ ((rrK h a b j i).length : Int) = 0› ‹(0 < ((lB h a b j).length : Int) ∧ _) ∧ _› hQ ‹_›).1 | exact congrArg _ (lb_y (i := i) ha hb la lb (by omega) hI2 ‹((bX a b).length : Int) ≤ _› ‹¬ ((rrK h a b j i).length : Int) = 0› ‹(0 < ((lB h a b j).length : Int) ∧ _) ∧ _› hQ ‹_›).2.1 | exact (lb_y (i := i) ha hb la lb (by omega) hI2 ‹((bX a b).length : Int) ≤ _› ‹¬ ((rrK h a b j i).length : Int) = 0› ‹(0 < ((lB h a b j).length : Int) ∧ _) ∧ _› hQ ‹_›).2.2 | (rw [← (lb_n (i := i) ha hb la lb (by omega) hI2 ‹((bX a b).length : Int) ≤ _› ‹¬ ((rrK h a b j i).length : Int) = 0› (bcR_f hc)).1, List.map_append]; done) | exact congrArg _ (lb_n (i := i) ha hb la lb (by omega) hI2 ‹((bX a b).length : Int) ≤ _› ‹¬ ((rrK h a b j i).length : Int) = 0› (bcR_f hc)).2 | (rw [← (lb_n (i := i) ha hb la lb (by omega) hI2 ‹((bX a b).length : Int) ≤ _› ‹¬ ((rrK h a b j i).length : Int) = 0› (bcR_f hc)).1, List.length_append]; done)))
                  · refine WA_skip ?_
                    refine WA_seq (x := (fcd Tryz.f18 [1, 1, 1, 1, 1, 1, 0, 1, 0, 0, 1, 0, 0, 1, 1, 1, 0])) (y := (fcd Tryz.f18 [1, 1, 1, 1, 1, 1, 0, 1, 0, 0, 1, 0, 0, 1, 1, 1, 1])) ?_
                    refine WA_seq (x := (fcd Tryz.f18 [1, 1, 1, 1, 1, 1, 0, 1, 0, 0, 1, 0, 0, 1, 1, 1, 0, 0])) (y := (fcd Tryz.f18 [1, 1, 1, 1, 1, 1, 0, 1, 0, 0, 1, 0, 0, 1, 1, 1, 0, 1])) ?_
                    refine V_draw Γ [] [0, 1, 2, 6, 7, 8, 9, 10, 11, 12, 13, 14, 15, 16, 17, 19, 20, 21, 63, 64, 65, 114, 121, 136, 160, 212, 236, 238, 239, 240] mixed (by kernel_rfl) (evs ?_)
                    have hyl := bY_len la lb
                    have hxl := bX_len la lb
                    have hys := bY_ys ha hb
                    have hxs := bX_ys ha hb
                    have hyj := hys.at (k := j) (by omega)
                    have hlb := lB_bd (how := h) (j := j) ha hb la lb (by omega) 0
                    (try simp (maxSteps := 10000000) (disch := omega) only [w64, toNs, toNp1])
                    all_goals (try with_reducible (repeat' (first | apply And.intro | intro _)))
                    all_goals (try (first | with_reducible refine wa_id ?_ | exact True.intro | exact ralike_fn _ _ | omega | exact sorted_fn _ (by have := edX2_len a b m; omega) | exact sorted_fn _ (by have := edY2_len a b m; omega) | exact inside_fn _ _ _ _ _ ha hb (by omega) (by omega) | exact ralike_fn _ _ | (rw [bh_len (by omega)]; first | done | omega)))
                    refine V_cond (evs ?_)
                    refine ⟨fun hc => ?_, fun hc => ?_⟩
                    · refine WA_seq (x := (fcd Tryz.f18 [1, 1, 1, 1, 1, 1, 0, 1, 0, 0, 1, 0, 0, 1, 1, 1, 0, 1, 0, 0])) (y := (fcd Tryz.f18 [1, 1, 1, 1, 1, 1, 0, 1, 0, 0, 1, 0, 0, 1, 1, 1, 0, 1, 0, 1])) ?_
                      refine WA_seq (x := (fcd Tryz.f18 [1, 1, 1, 1, 1, 1, 0, 1, 0, 0, 1, 0, 0, 1, 1, 1, 0, 1, 0, 0, 0])) (y := (fcd Tryz.f18 [1, 1, 1, 1, 1, 1, 0, 1, 0, 0, 1, 0, 0, 1, 1, 1, 0, 1, 0, 0, 1])) ?_
                      refine V_regionX Γ Δ [] [0, 1, 2, 6, 7, 8, 9, 10, 11, 12, 13, 14, 15, 16, 17, 19, 20, 21, 63, 64, 65, 114, 121, 136, 160, 212, 236, 238, 239, 240] (evs ?_)
                      all_goals (try with_reducible (repeat' (first | apply And.intro | intro _)))
                      all_goals (try (first | with_reducible refine wa_id ?_ | exact True.intro | omega | exact sorted_fn _ (by have := edX2_len a b m; omega) | exact sorted_fn _ (by have := edY2_len a b m; omega) | exact inside_fn _ _ _ _ _ ha hb (by omega) (by omega) | exact ralike_fn _ _ | (rw [bh_len (by omega)]; first | done | omega)))
                      refine WA_block (c := (fcd Tryz.f18 [1, 1, 1, 1, 1, 1, 0, 1, 0, 0, 1, 0, 0, 1, 1, 1, 0, 1, 0, 0, 1, 0])) ?_
                      refine V_loop (c := (fcd Tryz.f18 [1, 1, 1, 1, 1, 1, 0, 1, 0, 0, 1, 0, 0, 1, 1, 1, 0, 1, 0, 0, 1, 0, 0])) (α := Nat) [12, 17, 239, 240] [20005] (fun q => [(239, .dat (.i (q : Int))), (12, .vw 20007 0 (lB h a b j).length 4)]) (fun q => [(20007, some (true, .arr 34 4 ((bhK (lB h a b j) ((bY a b).getD (j + 1) 0) q).map rcC)))]) (fun q => q ≤ (lB h a b j).length) (fun q => (lB h a b j).length - q) 0 [(20007, some 20005)] ?_ (evs ?_) ?_
                      · exact Nat.zero_le _
                      · (try with_reducible (repeat' (first | apply And.intro | intro _)))
                        all_goals (first | exact True.intro | omega | (first | rfl | (rw [bh_0]; done) | (rw [bh_len (by omega)]; done)))
                      · intro q hQ
                        refine WA_seq (x := (fcd Tryz.f18 [1, 1, 1, 1, 1, 1, 0, 1, 0, 0, 1, 0, 0, 1, 1, 1, 0, 1, 0, 0, 1, 0, 0, 0])) (y := (fcd Tryz.f18 [1, 1, 1, 1, 1, 1, 0, 1, 0, 0, 1, 0, 0, 1, 1, 1, 0, 1, 0, 0, 1, 0, 0, 1])) ?_
                        refine V_regionX Γ Δ [] [0, 1, 2, 6, 7, 8, 9, 10, 11, 12, 13, 14, 15, 16, 17, 19, 20, 21, 63, 64, 65, 114, 121, 136, 160, 212, 236, 238, 239, 240] (evs ?_)
                        all_goals (try with_reducible (repeat' (first | apply And.intro | intro _)))
                        all_goals (try (first | with_reducible refine wa_id ?_ | exact True.intro | omega | exact sorted_fn _ (by have := edX2_len a b m; omega) | exact sorted_fn _ (by have := edY2_len a b m; omega) | exact inside_fn _ _ _ _ _ ha hb (by omega) (by omega) | exact ralike_fn _ _ | (rw [bh_len (by omega)]; first | done | omega)))
                        refine WA_seq (x := (fcd Tryz.f18 [1, 1, 1, 1, 1, 1, 0, 1, 0, 0, 1, 0, 0, 1, 1, 1, 0, 1, 0, 0, 1, 0, 0, 1, 0])) (y := (fcd Tryz.f18 [1, 1, 1, 1, 1, 1, 0, 1, 0, 0, 1, 0, 0, 1, 1, 1, 0, 1, 0, 0, 1, 0, 0, 1, 1])) ?_
                        refine V_cond (evs ?_)
                        refine ⟨fun hc => ?_, fun hc => ?_⟩
                        · refine WA_skip ?_
                          refine WA_seq (x := (fcd Tryz.f18 [1, 1, 1, 1, 1, 1, 0, 1, 0, 0, 1, 0, 0, 1, 1, 1, 0, 1, 0, 0, 1, 0, 0, 1, 1, 0])) (y := (fcd Tryz.f18 [1, 1, 1, 1, 1, 1, 0, 1, 0, 0, 1, 0, 0, 1, 1, 1, 0, 1, 0, 0, 1, 0, 0, 1, 1, 1])) ?_
                          refine WA_block (c := (fcd Tryz.f18 [1, 1, 1, 1, 1, 1, 0, 1, 0, 0, 1, 0, 0, 1, 1, 1, 0, 1, 0, 0, 1, 0, 0, 1, 1, 0, 0])) ?_
                          refine WA_seq (x := (fcd Tryz.f18 [1, 1, 1, 1, 1, 1, 0, 1, 0, 0, 1, 0, 0, 1, 1, 1, 0, 1, 0, 0, 1, 0, 0, 1, 1, 0, 0, 0])) (y := (fcd Tryz.f18 [1, 1, 1, 1, 1, 1, 0, 1, 0, 0, 1, 0, 0, 1, 1, 1, 0, 1, 0, 0, 1, 0, 0, 1, 1, 0, 0, 1])) ?_
                          refine V_regionX Γ Δ [] [0, 1, 2, 6, 7, 8, 9, 10, 11, 12, 13, 14, 15, 16, 17, 19, 20, 21, 63, 64, 65, 114, 121, 136, 160, 212, 236, 238, 239, 240] (evs ?_)
                          all_goals (try with_reducible (repeat' (first | apply And.intro | intro _)))
                          all_goals (try (first | with_reducible refine wa_id ?_ | exact True.intro | omega | exact sorted_fn _ (by have := edX2_len a b m; omega) | exact sorted_fn _ (by have := edY2_len a b m; omega) | exact inside_fn _ _ _ _ _ ha hb (by omega) (by omega) | exact ralike_fn _ _ | (rw [bh_len (by omega)]; first | done | omega)))
                          refine V_draw Γ [] [0, 1, 2, 6, 7, 8, 9, 10, 11, 12, 13, 14, 15, 16, 17, 19, 20, 21, 63, 64, 65, 114, 121, 136, 160, 212, 236, 238, 239, 240] mixed (by kernel_rfl) (evs ?_)
                          have hyl := bY_len la lb
                          have hxl := bX_len la lb
                          have hys := bY_ys ha hb
                          have hxs := bX_ys ha hb
                          have hyj := hys.at (k := j) (by omega)
                          have hyj1 := hys.at (k := j + 1) (by omega)
                          have hya := asc_at hys.asc (k := j) (by omega)
                          have hol := ol_len (how := h) (j := j) ha hb la lb (by omega)
                          have hlb := lB_bd (how := h) (j := j) ha hb la lb (by omega) q
                          have hbh := bh_at (L := lB h a b j) (Y := (bY a b).getD (j + 1) 0) (i := q) (by omega)
                          simp only [hbh]
                          (try simp (maxSteps := 10000000) (disch := omega) only [w64, toNs, toNp1])
                          all_goals (try with_reducible (repeat' (first | apply And.intro | intro _)))
                          all_goals (try (first | with_reducible refine wa_id ?_ | exact True.intro | omega | exact sorted_fn _ (by have := edX2_len a b m; omega) | exact sorted_fn _ (by have := edY2_len a b m; omega) | exact inside_fn _ _ _ _ _ ha hb (by omega) (by omega) | exact ralike_fn _ _ | (rw [bh_len (by omega)]; first | done | omega)))
                          refine V_regionX Γ Δ [] [0, 1, 2, 6, 7, 8, 9, 10, 11, 12, 13, 14, 15, 16, 17, 19, 20, 21, 63, 64, 65, 114, 121, 136, 160, 212, 236, 238, 239, 240] (evs ?_)
                          all_goals (try with_reducible (repeat' (first | apply And.intro | intro _)))
                          all_goals (try (first | with_reducible refine wa_id ?_ | exact True.intro | omega | exact sorted_fn _ (by have := edX2_len a b m; omega) | exact sorted_fn _ (by have := edY2_len a b m; omega) | exact inside_fn _ _ _ _ _ ha hb (by omega) (by omega) | exact ralike_fn _ _ | (rw [bh_len (by omega)]; first | done | omega)))
                          refine V_next [] (q + 1) (evs ?_) ?_ ?_
                          all_goals (try with_reducible (repeat' (first | apply And.intro | intro _)))
                          all_goals (first | exact True.intro | omega | (first | (rw [wadd (by omega)]; done) | exact bh_s ‹_› | (rw [bh_len (by omega)]; done)))
                        · refine V_exit (evs ?_)
                          refine V_exit (evs ?_)
                          refine V_regionX Γ Δ [] [0, 1, 2, 6, 7, 8, 9, 10, 11, 12, 13, 14, 15, 16, 17, 19, 20, 21, 63, 64, 65, 114, 121, 136, 160, 212, 236, 238, 239, 240] (evs ?_)
                          all_goals (try with_reducible (repeat' (first | apply And.intro | intro _)))
                          all_goals (try (first | with_reducible refine wa_id ?_ | exact True.intro | omega | exact sorted_fn _ (by have := edX2_len a b m; omega) | exact sorted_fn _ (by have := edY2_len a b m; omega) | exact inside_fn _ _ _ _ _ ha hb (by omega) (by omega) | exact ralike_fn _ _ | (rw [bh_len (by omega)]; first | done | omega)))
                          refine V_next [(20005, some 20007)] (j + 1) (evs ?_) ?_ ?_
                          all_goals (try with_reducible (repeat' (first | apply And.intro | intro _)))
                          all_goals (first | exact True.intro | omega | (first | (rw [wadd (by omega)]; done) | (rw [(lb_0 hI2 ‹((bX a b).length : Int) ≤ _› ‹_›).1]; done) | (rw [(lb_0 hI2 ‹((bX a b).length : Int) ≤ _› ‹_›).2]; done) | exact congrArg _ (lb_y (i := i) ha hb la lb (by omega) hI2 ‹((bX a b).length : Int) ≤ _› ‹¬ ((rrK h a b j i).length : Int) = 0› ‹(0 < ((lB h a b j).length : Int) ∧ _) ∧ _› hQ ‹_›).1 | exact congrArg _ (lb_y (i := i) ha hb la lb (by omega) hI2 ‹((bX a b).length : Int) ≤ _› ‹¬ ((rrK h a b j i).length : Int) = 0› ‹(0 < ((lB h a b j).length : Int) ∧ _) ∧ _› hQ ‹_›).2.1 | exact (lb_y (i := i) ha hb la lb (by omega) hI2 ‹((bX a b).length : Int) ≤ _› ‹¬ ((rrK h a b j i).length : Int) = 0› ‹(0 < ((lB h a b j).length : Int) ∧ _) ∧ _› hQ ‹_›).2.2 | (rw [← (lb_n (i := i) ha hb la lb (by omega) hI2 ‹((bX a b).length : Int) ≤ _› ‹¬ ((rrK h a b j i).length : Int) = 0› (bcR_f hc)).1, List.map_append]; done) | exact congrArg _ (lb_n (i := i) ha hb la lb (by omega) hI2 ‹((bX a b).length : Int) ≤ _› ‹¬ ((rrK h a b j i).length : Int) = 0› (bcR_f hc)).2 | (rw [← (lb_n (i := i) ha hb la lb (by omega) hI2 ‹((bX a b).length : Int) ≤ _› ‹¬ ((rrK h a b j i).length : Int) = 0› (bcR_f hc)).1, List.length_append]; done)))
                    · refine WA_skip ?_
                      refine WA_seq (x := (fcd Tryz.f18 [1, 1, 1, 1, 1, 1, 0, 1, 0, 0, 1, 0, 0, 1, 1, 1, 1, 0])) (y := (fcd Tryz.f18 [1, 1, 1, 1, 1, 1, 0, 1, 0, 0, 1, 0, 0, 1, 1, 1, 1, 1])) ?_
                      refine V_regionX Γ Δ [] [0, 1, 2, 6, 7, 8, 9, 10, 11, 12, 13, 14, 15, 16, 17, 19, 20, 21, 63, 64, 65, 114, 121, 136, 160, 212, 236, 238, 239, 240] (evs ?_)
                      have hyl := bY_len la lb
                      have hxl := bX_len la lb
                      have hys := bY_ys ha hb
                      have hxs := bX_ys ha hb
                      have hol := ol_len (how := h) (j := j) ha hb la lb (by omega)
                      
                      all_goals (try with_reducible (repeat' (first | apply And.intro | intro _)))
                      all_goals (try (first | with_reducible refine wa_id ?_ | exact True.intro | omega | exact sorted_fn _ (by have := edX2_len a b m; omega) | exact sorted_fn _ (by have := edY2_len a b m; omega) | exact inside_fn _ _ _ _ _ ha hb (by omega) (by omega) | exact ralike_fn _ _ | (rw [bh_len (by omega)]; first | done | omega)))
                      refine V_regionX Γ Δ [] [0, 1, 2, 6, 7, 8, 9, 10, 11, 12, 13, 14, 15, 16, 17, 19, 20, 21, 63, 64, 65, 114, 121, 136, 160, 212, 236, 238, 239, 240] (evs ?_)
                      all_goals (try with_reducible (repeat' (first | apply And.intro | intro _)))
                      all_goals (try (first | with_reducible refine wa_id ?_ | exact True.intro | omega | exact sorted_fn _ (by have := edX2_len a b m; omega) | exact sorted_fn _ (by have := edY2_len a b m; omega) | exact inside_fn _ _ _ _ _ ha hb (by omega) (by omega) | exact ralike_fn _ _ | (rw [bh_len (by omega)]; first | done | omega)))
                      refine V_regionX Γ Δ [] [0, 1, 2, 6, 7, 8, 9, 10, 11, 12, 13, 14, 15, 16, 17, 19, 20, 21, 63, 64, 65, 114, 121, 136, 160, 212, 236, 238, 239, 240] (evs ?_)
                      all_goals (try with_reducible (repeat' (first | apply And.intro | intro _)))
                      all_goals (try (first | with_reducible refine wa_id ?_ | exact True.intro | omega | exact sorted_fn _ (by have := edX2_len a b m; omega) | exact sorted_fn _ (by have := edY2_len a b m; omega) | exact inside_fn _ _ _ _ _ ha hb (by omega) (by omega) | exact ralike_fn _ _ | (rw [bh_len (by omega)]; first | done | omega)))
                      refine V_next [(20004, some 260), (20005, some 20006)] (j + 1) (evs ?_) ?_ ?_
                      all_goals (try with_reducible (repeat' (first | apply And.intro | intro _)))
                      all_goals (first | exact True.intro | omega | (first | (rw [wadd (by omega)]; done) | (rw [(lb_0 hI2 ‹((bX a b).length : Int) ≤ _› ‹_›).1]; done) | (rw [(lb_0 hI2 ‹((bX a b).length : Int) ≤ _› ‹_›).2]; done) | exact congrArg _ (lb_y (i := i) ha hb la lb (by omega) hI2 ‹((bX a b).length : Int) ≤ _› ‹¬ ((rrK h a b j i).length : Int) = 0› ‹(0 < ((lB h a b j).length : Int) ∧ _) ∧ _› hQ ‹_›).1 | exact congrArg _ (lb_y (i := i) ha hb la lb (by omega) hI2 ‹((bX a b).length : Int) ≤ _› ‹¬ ((rrK h a b j i).length : Int) = 0› ‹(0 < ((lB h a b j).length : Int) ∧ _) ∧ _› hQ ‹_›).2.1 | exact (lb_y (i := i) ha hb la lb (by omega) hI2 ‹((bX a b).length : Int) ≤ _› ‹¬ ((rrK h a b j i).length : Int) = 0› ‹(0 < ((lB h a b j).length : Int) ∧ _) ∧ _› hQ ‹_›).2.2 | (rw [← (lb_n (i := i) ha hb la lb (by omega) hI2 ‹((bX a b).length : Int) ≤ _› ‹¬ ((rrK h a b j i).length : Int) = 0› (bcR_f hc)).1, List.map_append]; done) | exact congrArg _ (lb_n (i := i) ha hb la lb (by omega) hI2 ‹((bX a b).length : Int) ≤ _› ‹¬ ((rrK h a b j i).length : Int) = 0› (bcR_f hc)).2 | (rw [← (lb_n (i := i) ha hb la lb (by omega) hI2 ‹((bX a b).length : Int) ≤ _› ‹¬ ((rrK h a b j i).length : Int) = 0› (bcR_f hc)).1, List.length_append]; done)))
            · refine V_exit (evs ?_)
              refine WA_seq (x := (fcd Tryz.f18 [1, 1, 1, 1, 1, 1, 1, 0])) (y := (fcd Tryz.f18 [1, 1, 1, 1, 1, 1, 1, 1])) ?_
              refine V_regionX Γ Δ [] [0, 1, 2, 6, 7, 8, 9, 10, 11, 12, 13, 14, 15, 16, 17, 19, 20, 21, 63, 64, 65, 114, 121, 136, 160, 212, 236, 238, 239, 240] (evs ?_)
              have hyl := bY_len la lb
              have hol := olX (how := h) (j := j) ha hb la lb hJ
              
              all_goals (try with_reducible (repeat' (first | apply And.intro | intro _)))
              all_goals (try (first | with_reducible refine wa_id ?_ | exact True.intro | omega | exact sorted_fn _ (by have := edX2_len a b m; omega) | exact sorted_fn _ (by have := edY2_len a b m; omega) | exact inside_fn _ _ _ _ _ ha hb (by omega) (by omega) | exact ralike_fn _ _ | (rw [bh_len (by omega)]; first | done | omega)))
              refine V_ret (evs ?_)
              first | exact True.intro | rfl | exact ⟨by simp, by rw [← List.map_append, lb_all hJ ‹_›]⟩

end Go.S03

