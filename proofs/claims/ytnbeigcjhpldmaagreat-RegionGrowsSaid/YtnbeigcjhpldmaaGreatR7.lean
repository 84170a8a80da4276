import Derived.Test.YtnbeigcjhpldmaaGreatR5
import Derived.Test.YtnbeigcjhpldmaaGreatA1
set_option linter.unusedSimpArgs false
set_option linter.unusedVariables false
set_option linter.unusedSimpArgs false
set_option linter.unusedVariables false
namespace Go.S03
open Go.RowKit Go.Proofs Go.Eng Go.Rect
theorem rgr_fn (a : List Rc) (n : Int) : Eng.Fn Tryz.prog 8 [.sl 4 (a.map rcC), .i n] (.own 34 4 ((canoF orB (growL (clampI n 0 1048576) (els a)) []).map rcC)) := by
  refine Eng.Fn.by (fn := Tryz.f8) 28 [.tmp 4] Tryz.func8 rfl Tryz.ntmps8 rfl (by simp) fun w0 G0 => ?_
  refine WA_seq (x := (fcd Tryz.f8 [0])) (y := (fcd Tryz.f8 [1])) ?_
  refine V_regionX Γ Δ [] [0, 1, 4, 5, 6, 12, 13, 14] (evs ?_)
  all_goals (try with_reducible (repeat' (first | apply And.intro | intro _)))
  all_goals (try (first | with_reducible refine wa_id ?_ | exact True.intro | omega | exact part_fn _ | exact rgrow_fn ⟨_, _, _, _⟩ _ | exact Fn.nil1 4 (build_fn _ [] _ (grow_wd (els_wd a) (by unfold clampI; omega) (by unfold clampI; omega)) (fun r h => by cases h) (by rw [growL_ln]; exact els_len a) (by simp))))
  refine WA_seq (x := (fcd Tryz.f8 [1, 0])) (y := (fcd Tryz.f8 [1, 1])) ?_
  refine V_regionX Γ Δ [] [0, 1, 4, 5, 6, 12, 13, 14] (evs ?_)
  all_goals (try with_reducible (repeat' (first | apply And.intro | intro _)))
  all_goals (try (first | with_reducible refine wa_id ?_ | exact True.intro | exact rclamp_fn _ _ _ | omega | exact part_fn _ | exact rgrow_fn ⟨_, _, _, _⟩ _ | exact Fn.nil1 4 (build_fn _ [] _ (grow_wd (els_wd a) (by unfold clampI; omega) (by unfold clampI; omega)) (fun r h => by cases h) (by rw [growL_ln]; exact els_len a) (by simp))))
  refine WA_seq (x := (fcd Tryz.f8 [1, 1, 0])) (y := (fcd Tryz.f8 [1, 1, 1])) ?_
  refine V_regionX Γ Δ [] [0, 1, 4, 5, 6, 12, 13, 14] (evs ?_)
  all_goals (try with_reducible (repeat' (first | apply And.intro | intro _)))
  all_goals (try (first | with_reducible refine wa_id ?_ | exact True.intro | exact part_fn _ | omega | exact part_fn _ | exact rgrow_fn ⟨_, _, _, _⟩ _ | exact Fn.nil1 4 (build_fn _ [] _ (grow_wd (els_wd a) (by unfold clampI; omega) (by unfold clampI; omega)) (fun r h => by cases h) (by rw [growL_ln]; exact els_len a) (by simp))))
  refine WA_seq (x := (fcd Tryz.f8 [1, 1, 1, 0])) (y := (fcd Tryz.f8 [1, 1, 1, 1])) ?_
  refine WA_seq (x := (fcd Tryz.f8 [1, 1, 1, 0, 0])) (y := (fcd Tryz.f8 [1, 1, 1, 0, 1])) ?_
  refine V_regionX Γ Δ [] [0, 1, 4, 5, 6, 12, 13, 14] (evs ?_)
  all_goals (try with_reducible (repeat' (first | apply And.intro | intro _)))
  all_goals (try (first | with_reducible refine wa_id ?_ | exact True.intro | omega | exact part_fn _ | exact rgrow_fn ⟨_, _, _, _⟩ _ | exact Fn.nil1 4 (build_fn _ [] _ (grow_wd (els_wd a) (by unfold clampI; omega) (by unfold clampI; omega)) (fun r h => by cases h) (by rw [growL_ln]; exact els_len a) (by simp))))
  refine WA_block (c := (fcd Tryz.f8 [1, 1, 1, 0, 1, 0])) ?_
  refine V_loop (c := (fcd Tryz.f8 [1, 1, 1, 0, 1, 0, 0])) (α := Nat) [6, 13, 14] [11000, 12300, 12301, 12302, 12303] (fun k => [(13, .dat (.i (k : Int)))]) (fun k => [(11000, some (true, .arr 34 4 ((grK (clampI n 0 1048576) (els a) k).map rcC)))]) (fun k => k ≤ (els a).length) (fun k => (els a).length - k) 0 [] ?_ (evs ?_) ?_
  · exact Nat.zero_le _
  · (try with_reducible (repeat' (first | apply And.intro | intro _)))
    all_goals (first | exact True.intro | omega | (first | rfl | (rw [grK_0]; done)))
  · intro k hI
    refine WA_seq (x := (fcd Tryz.f8 [1, 1, 1, 0, 1, 0, 0, 0])) (y := (fcd Tryz.f8 [1, 1, 1, 0, 1, 0, 0, 1])) ?_
    refine V_regionX Γ Δ [] [0, 1, 4, 5, 6, 12, 13, 14] (evs ?_)
    all_goals (try with_reducible (repeat' (first | apply And.intro | intro _)))
    all_goals (try (first | with_reducible refine wa_id ?_ | exact True.intro | omega | exact part_fn _ | exact rgrow_fn ⟨_, _, _, _⟩ _ | exact Fn.nil1 4 (build_fn _ [] _ (grow_wd (els_wd a) (by unfold clampI; omega) (by unfold clampI; omega)) (fun r h => by cases h) (by rw [growL_ln]; exact els_len a) (by simp))))
    refine WA_seq (x := (fcd Tryz.f8 [1, 1, 1, 0, 1, 0, 0, 1, 0])) (y := (fcd Tryz.f8 [1, 1, 1, 0, 1, 0, 0, 1, 1])) ?_
    refine V_cond (evs ?_)
    refine ⟨fun hc => ?_, fun hc => ?_⟩
    · refine WA_skip ?_
      refine WA_seq (x := (fcd Tryz.f8 [1, 1, 1, 0, 1, 0, 0, 1, 1, 0])) (y := (fcd Tryz.f8 [1, 1, 1, 0, 1, 0, 0, 1, 1, 1])) ?_
      refine WA_block (c := (fcd Tryz.f8 [1, 1, 1, 0, 1, 0, 0, 1, 1, 0, 0])) ?_
      refine WA_seq (x := (fcd Tryz.f8 [1, 1, 1, 0, 1, 0, 0, 1, 1, 0, 0, 0])) (y := (fcd Tryz.f8 [1, 1, 1, 0, 1, 0, 0, 1, 1, 0, 0, 1])) ?_
      refine V_regionX Γ Δ [] [0, 1, 4, 5, 6, 12, 13, 14] (evs ?_)
      all_goals (try with_reducible (repeat' (first | apply And.intro | intro _)))
      all_goals (try (first | with_reducible refine wa_id ?_ | exact True.intro | omega | exact part_fn _ | exact rgrow_fn ⟨_, _, _, _⟩ _ | exact Fn.nil1 4 (build_fn _ [] _ (grow_wd (els_wd a) (by unfold clampI; omega) (by unfold clampI; omega)) (fun r h => by cases h) (by rw [growL_ln]; exact els_len a) (by simp))))
      refine V_regionX Γ Δ [] [0, 1, 4, 5, 6, 12, 13, 14] (evs ?_)
      have hg1 := grK_at (n := (clampI n 0 1048576)) ‹(k : Int) < ((els a).length : Int)›
      have hg2 := grK_len (n := (clampI n 0 1048576)) (l := els a) hI
      try simp only [hg1]
      all_goals (try with_reducible (repeat' (first | apply And.intro | intro _)))
      all_goals (try (first | with_reducible refine wa_id ?_ | exact True.intro | exact rgrow_fn _ _ | omega | exact part_fn _ | exact rgrow_fn ⟨_, _, _, _⟩ _ | exact Fn.nil1 4 (build_fn _ [] _ (grow_wd (els_wd a) (by unfold clampI; omega) (by unfold clampI; omega)) (fun r h => by cases h) (by rw [growL_ln]; exact els_len a) (by simp))))
      refine V_regionX Γ Δ [] [0, 1, 4, 5, 6, 12, 13, 14] (evs ?_)
      all_goals (try with_reducible (repeat' (first | apply And.intro | intro _)))
      all_goals (try (first | with_reducible refine wa_id ?_ | exact True.intro | omega | exact part_fn _ | exact rgrow_fn ⟨_, _, _, _⟩ _ | exact Fn.nil1 4 (build_fn _ [] _ (grow_wd (els_wd a) (by unfold clampI; omega) (by unfold clampI; omega)) (fun r h => by cases h) (by rw [growL_ln]; exact els_len a) (by simp))))
      refine V_next [] (k + 1) (evs ?_) ?_ ?_
      all_goals (try with_reducible (repeat' (first | apply And.intro | intro _)))
      all_goals (first | exact True.intro | omega | (first | rfl | exact w64l (n := 256) (by have := els_len a; omega) (by omega) | exact grK_s ‹_›))
    · refine V_exit (evs ?_)
      refine WA_seq (x := (fcd Tryz.f8 [1, 1, 1, 1, 0])) (y := (fcd Tryz.f8 [1, 1, 1, 1, 1])) ?_
      refine V_regionX Γ Δ [] [0, 1, 4, 5, 6, 12, 13, 14] (evs ?_)
      have hgl := growL_len (clampI n 0 1048576) (els a)
      simp only [grK_all hc, tkG, mapRc]
      all_goals (try with_reducible (repeat' (first | apply And.intro | intro _)))
      all_goals (try (first | with_reducible refine wa_id ?_ | exact True.intro | exact build_fn _ _ _ (by assumption) (by assumption) (by assumption) (by assumption) | omega | exact part_fn _ | exact rgrow_fn ⟨_, _, _, _⟩ _ | exact Fn.nil1 4 (build_fn _ [] _ (grow_wd (els_wd a) (by unfold clampI; omega) (by unfold clampI; omega)) (fun r h => by cases h) (by rw [growL_ln]; exact els_len a) (by simp))))
      try simp only [bld_grow (show 0 ≤ clampI n 0 1048576 by unfold clampI; omega) (show clampI n 0 1048576 ≤ 1048576 by unfold clampI; omega)]
      refine V_ret (evs ?_)
      first | exact True.intro | rfl | (rw [bld_grow (by unfold clampI; omega) (by unfold clampI; omega)]; done)

end Go.S03

