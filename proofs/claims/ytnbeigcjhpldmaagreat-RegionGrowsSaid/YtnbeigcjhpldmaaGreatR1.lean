import Derived.Test.YtnbeigcjhpldmaaGreatA1
set_option linter.unusedSimpArgs false
set_option linter.unusedVariables false
set_option linter.unusedSimpArgs false
set_option linter.unusedVariables false
namespace Go.S03
open Go.RowKit Go.Proofs Go.Eng Go.Rect
theorem part_fn (a : List Rc) : Eng.Fn Tryz.prog 16 [.sl 4 (a.map rcC)] (.own 34 4 ((els a).map rcC)) := by
  refine Eng.Fn.by (fn := Tryz.f16) 36 [.tmp 2] Tryz.func16 rfl Tryz.ntmps16 rfl (by simp) fun w0 G0 => ?_
  refine WA_seq (x := (fcd Tryz.f16 [0])) (y := (fcd Tryz.f16 [1])) ?_
  refine V_regionX Γ Δ [] [0, 2, 3, 4, 12, 27] (evs ?_)
  all_goals (try with_reducible (repeat' (first | apply And.intro | intro _)))
  all_goals (try (first | with_reducible refine wa_id ?_ | exact True.intro | omega))
  refine WA_seq (x := (fcd Tryz.f16 [1, 0])) (y := (fcd Tryz.f16 [1, 1])) ?_
  refine V_regionX Γ Δ [] [0, 2, 3, 4, 12, 27] (evs ?_)
  all_goals (try with_reducible (repeat' (first | apply And.intro | intro _)))
  all_goals (try (first | with_reducible refine wa_id ?_ | exact True.intro | omega))
  refine WA_seq (x := (fcd Tryz.f16 [1, 1, 0])) (y := (fcd Tryz.f16 [1, 1, 1])) ?_
  refine WA_seq (x := (fcd Tryz.f16 [1, 1, 0, 0])) (y := (fcd Tryz.f16 [1, 1, 0, 1])) ?_
  refine V_regionX Γ Δ [] [0, 2, 3, 4, 12, 27] (evs ?_)
  all_goals (try with_reducible (repeat' (first | apply And.intro | intro _)))
  all_goals (try (first | with_reducible refine wa_id ?_ | exact True.intro | omega))
  refine WA_block (c := (fcd Tryz.f16 [1, 1, 0, 1, 0])) ?_
  refine V_loop (c := (fcd Tryz.f16 [1, 1, 0, 1, 0, 0])) (α := Nat) [3, 4, 12, 27] [33, 34, 11900, 11901, 11902, 11903, 12500, 12501, 12502, 12503] (fun k => [(4, .dat (.i (k : Int))), (3, .vw 20000 0 (pl (tkM a) k).length 4)]) (fun k => [(20000, some (true, .arr 34 4 ((pl (tkM a) k).map rcC)))]) (fun k => k ≤ (tkM a).length) (fun k => (tkM a).length - k) 0 [(20000, none)] ?_ (evs ?_) ?_
  · exact Nat.zero_le _
  · (try with_reducible (repeat' (first | apply And.intro | intro _)))
    all_goals (first | exact True.intro | omega | (first | rfl))
  · intro k hI
    refine WA_seq (x := (fcd Tryz.f16 [1, 1, 0, 1, 0, 0, 0])) (y := (fcd Tryz.f16 [1, 1, 0, 1, 0, 0, 1])) ?_
    refine WA_seq (x := (fcd Tryz.f16 [1, 1, 0, 1, 0, 0, 0, 0])) (y := (fcd Tryz.f16 [1, 1, 0, 1, 0, 0, 0, 1])) ?_
    refine V_regionX Γ Δ [] [0, 2, 3, 4, 12, 27] (evs ?_)
    all_goals (try with_reducible (repeat' (first | apply And.intro | intro _)))
    all_goals (try (first | with_reducible refine wa_id ?_ | exact True.intro | omega))
    refine V_cond (evs ?_)
    refine ⟨fun hc => ?_, fun hc => ?_⟩
    · refine WA_skip ?_
      refine WA_seq (x := (fcd Tryz.f16 [1, 1, 0, 1, 0, 0, 1, 0])) (y := (fcd Tryz.f16 [1, 1, 0, 1, 0, 0, 1, 1])) ?_
      refine WA_block (c := (fcd Tryz.f16 [1, 1, 0, 1, 0, 0, 1, 0, 0])) ?_
      refine WA_seq (x := (fcd Tryz.f16 [1, 1, 0, 1, 0, 0, 1, 0, 0, 0])) (y := (fcd Tryz.f16 [1, 1, 0, 1, 0, 0, 1, 0, 0, 1])) ?_
      refine V_regionX Γ Δ [] [0, 2, 3, 4, 12, 27] (evs ?_)
      (try simp (maxSteps := 10000000) (disch := omega) only [w64])
      all_goals (try with_reducible (repeat' (first | apply And.intro | intro _)))
      all_goals (try (first | with_reducible refine wa_id ?_ | exact True.intro | exact rvalid_fn _ | exact rempty_fn _ | omega))
      refine V_cond (evs ?_)
      refine ⟨fun hc => ?_, fun hc => ?_⟩
      · refine V_regionX Γ Δ [] [0, 2, 3, 4, 12, 27] (evs ?_)
        have hq := pl_len (tkM a) k
        have hm := tkM_len a
        (try simp (maxSteps := 10000000) (disch := omega) only [w64])
        all_goals (try with_reducible (repeat' (first | apply And.intro | intro _)))
        all_goals (try (first | with_reducible refine wa_id ?_ | exact True.intro | omega))
        refine V_regionX Γ Δ [] [0, 2, 3, 4, 12, 27] (evs ?_)
        all_goals (try with_reducible (repeat' (first | apply And.intro | intro _)))
        all_goals (try (first | with_reducible refine wa_id ?_ | exact True.intro | omega))
        refine V_next [(20000, some 34)] (k + 1) (evs ?_) ?_ ?_
        all_goals (try with_reducible (repeat' (first | apply And.intro | intro _)))
        all_goals (first | exact True.intro | omega | (first | exact w64l (n := 256) (by omega) (by omega) | (have := tkM_lt ‹_›; omega) | (rw [plY ‹_› hc, List.map_append]; rfl) | (rw [plY ‹_› hc, List.length_append]; rfl) | (rw [plN ‹_› hc]; done)))
      · refine WA_skip ?_
        refine V_regionX Γ Δ [] [0, 2, 3, 4, 12, 27] (evs ?_)
        all_goals (try with_reducible (repeat' (first | apply And.intro | intro _)))
        all_goals (try (first | with_reducible refine wa_id ?_ | exact True.intro | omega))
        refine V_next [] (k + 1) (evs ?_) ?_ ?_
        all_goals (try with_reducible (repeat' (first | apply And.intro | intro _)))
        all_goals (first | exact True.intro | omega | (first | exact w64l (n := 256) (by omega) (by omega) | (have := tkM_lt ‹_›; omega) | (rw [plY ‹_› hc, List.map_append]; rfl) | (rw [plY ‹_› hc, List.length_append]; rfl) | (rw [plN ‹_› hc]; done)))
    · refine V_exit (evs ?_)
      refine WA_seq (x := (fcd Tryz.f16 [1, 1, 1, 0])) (y := (fcd Tryz.f16 [1, 1, 1, 1])) ?_
      refine V_regionX Γ Δ [] [0, 2, 3, 4, 12, 27] (evs ?_)
      all_goals (try with_reducible (repeat' (first | apply And.intro | intro _)))
      all_goals (try (first | with_reducible refine wa_id ?_ | exact True.intro | omega))
      refine V_ret (evs ?_)
      first | exact True.intro | rfl | (rw [pl_end hI (tkM_ge hc)]; done) | exact ⟨congrArg List.length (pl_end hI (tkM_ge hc)), congrArg _ (pl_end hI (tkM_ge hc))⟩

set_option maxHeartbeats 2000000 in
set_option maxRecDepth 100000 in
theorem holds_fn (a : List Rc) (x y : Int) (hw : Wd a) (hx : -1048576 ≤ x ∧ x ≤ 1048576) (hy : -1048576 ≤ y ∧ y ≤ 1048576) : Eng.Fn Tryz.prog 65 [.sl 4 (a.map rcC), .i x, .i y] (.dat (.b (inLb a x y))) := by
  refine Eng.Fn.by (fn := Tryz.f65) 60 [.tmp 6] Tryz.func65 rfl Tryz.ntmps65 rfl (by simp) fun w0 G0 => ?_
  refine WA_seq (x := (fcd Tryz.f65 [0])) (y := (fcd Tryz.f65 [1])) ?_
  refine V_regionX Γ Δ [] [0, 1, 2, 6, 7, 9, 10, 11, 58] (evs ?_)
  all_goals (try with_reducible (repeat' (first | apply And.intro | intro _)))
  all_goals (try (first | with_reducible refine wa_id ?_ | exact True.intro | omega))
  refine WA_seq (x := (fcd Tryz.f65 [1, 0])) (y := (fcd Tryz.f65 [1, 1])) ?_
  refine WA_seq (x := (fcd Tryz.f65 [1, 0, 0])) (y := (fcd Tryz.f65 [1, 0, 1])) ?_
  refine V_regionX Γ Δ [] [0, 1, 2, 6, 7, 9, 10, 11, 58] (evs ?_)
  all_goals (try with_reducible (repeat' (first | apply And.intro | intro _)))
  all_goals (try (first | with_reducible refine wa_id ?_ | exact True.intro | omega))
  refine WA_block (c := (fcd Tryz.f65 [1, 0, 1, 0])) ?_
  refine V_loop (c := (fcd Tryz.f65 [1, 0, 1, 0, 0])) (α := Nat) [6, 7, 10, 11, 58] [] (fun k => [(10, .dat (.i (k : Int)))]) (fun k => []) (fun k => k ≤ a.length ∧ ∀ j, j < k → ¬ hasI (a.getD j zR) x y) (fun k => a.length - k) 0 [] ?_ (evs ?_) ?_
  · exact ⟨Nat.zero_le _, fun j hj => by omega⟩
  · (try with_reducible (repeat' (first | apply And.intro | intro _)))
    all_goals (first | exact True.intro | omega | (first | rfl))
  · intro k hI
    refine WA_seq (x := (fcd Tryz.f65 [1, 0, 1, 0, 0, 0])) (y := (fcd Tryz.f65 [1, 0, 1, 0, 0, 1])) ?_
    refine V_regionX Γ Δ [] [0, 1, 2, 6, 7, 9, 10, 11, 58] (evs ?_)
    all_goals (try with_reducible (repeat' (first | apply And.intro | intro _)))
    all_goals (try (first | with_reducible refine wa_id ?_ | exact True.intro | omega))
    refine WA_seq (x := (fcd Tryz.f65 [1, 0, 1, 0, 0, 1, 0])) (y := (fcd Tryz.f65 [1, 0, 1, 0, 0, 1, 1])) ?_
    refine V_cond (evs ?_)
    refine ⟨fun hc => ?_, fun hc => ?_⟩
    · refine WA_skip ?_
      refine WA_seq (x := (fcd Tryz.f65 [1, 0, 1, 0, 0, 1, 1, 0])) (y := (fcd Tryz.f65 [1, 0, 1, 0, 0, 1, 1, 1])) ?_
      refine WA_block (c := (fcd Tryz.f65 [1, 0, 1, 0, 0, 1, 1, 0, 0])) ?_
      refine WA_seq (x := (fcd Tryz.f65 [1, 0, 1, 0, 0, 1, 1, 0, 0, 0])) (y := (fcd Tryz.f65 [1, 0, 1, 0, 0, 1, 1, 0, 0, 1])) ?_
      refine V_regionX Γ Δ [] [0, 1, 2, 6, 7, 9, 10, 11, 58] (evs ?_)
      all_goals (try with_reducible (repeat' (first | apply And.intro | intro _)))
      all_goals (try (first | with_reducible refine wa_id ?_ | exact True.intro | omega))
      refine WA_seq (x := (fcd Tryz.f65 [1, 0, 1, 0, 0, 1, 1, 0, 0, 1, 0])) (y := (fcd Tryz.f65 [1, 0, 1, 0, 0, 1, 1, 0, 0, 1, 1])) ?_
      refine V_draw Γ [] [0, 1, 2, 6, 7, 9, 10, 11, 58] mixed (by kernel_rfl) (evs ?_)
      have hq := wd_at hw ‹(k : Int) < _›
      (try simp (maxSteps := 10000000) (disch := omega) only [w64])
      all_goals (try with_reducible (repeat' (first | apply And.intro | intro _)))
      all_goals (try (first | with_reducible refine wa_id ?_ | exact True.intro | omega))
      refine V_cond (evs ?_)
      refine ⟨fun hc => ?_, fun hc => ?_⟩
      · refine WA_seq (x := (fcd Tryz.f65 [1, 0, 1, 0, 0, 1, 1, 0, 0, 1, 1, 0, 0])) (y := (fcd Tryz.f65 [1, 0, 1, 0, 0, 1, 1, 0, 0, 1, 1, 0, 1])) ?_
        refine V_regionX Γ Δ [] [0, 1, 2, 6, 7, 9, 10, 11, 58] (evs ?_)
        all_goals (try with_reducible (repeat' (first | apply And.intro | intro _)))
        all_goals (try (first | with_reducible refine wa_id ?_ | exact True.intro | omega))
        refine V_ret (evs ?_)
        first | exact inLb_1 ‹_› (by unfold hasI; omega) | exact inLb_2 hc hI.2
      · refine WA_skip ?_
        refine V_regionX Γ Δ [] [0, 1, 2, 6, 7, 9, 10, 11, 58] (evs ?_)
        all_goals (try with_reducible (repeat' (first | apply And.intro | intro _)))
        all_goals (try (first | with_reducible refine wa_id ?_ | exact True.intro | omega))
        refine V_next [] (k + 1) (evs ?_) ?_ ?_
        all_goals (try with_reducible (repeat' (first | apply And.intro | intro _)))
        all_goals (first | exact True.intro | omega | (first | exact w64l ‹(k : Int) < _› ‹a.length ≤ 281474976710656› | (refine all_s (p := fun j => ¬ hasI (a.getD j zR) x y) hI.2 ?_ _ ‹_›; unfold hasI; simp only [Bool.and_eq_false_iff, decide_eq_false_iff_not] at hc; omega)))
    · refine V_exit (evs ?_)
      refine WA_seq (x := (fcd Tryz.f65 [1, 1, 0])) (y := (fcd Tryz.f65 [1, 1, 1])) ?_
      refine V_regionX Γ Δ [] [0, 1, 2, 6, 7, 9, 10, 11, 58] (evs ?_)
      all_goals (try with_reducible (repeat' (first | apply And.intro | intro _)))
      all_goals (try (first | with_reducible refine wa_id ?_ | exact True.intro | omega))
      refine V_ret (evs ?_)
      first | exact inLb_1 ‹_› (by unfold hasI; omega) | exact inLb_2 hc hI.2

set_option maxRecDepth 100000 in
theorem inside_fn (a b : List Rc) (h x y : Int) (ha : Wd a) (hb : Wd b) (hx : -1048576 ≤ x ∧ x ≤ 1048576) (hy : -1048576 ≤ y ∧ y ≤ 1048576) : Eng.Fn Tryz.prog 40 [.sl 4 (a.map rcC), .sl 4 (b.map rcC), .i h, .i x, .i y] (.dat (.b (insH h a b x y))) := by
  refine Eng.Fn.by (fn := Tryz.f40) 46 [.tmp 10] Tryz.func40 rfl Tryz.ntmps40 rfl (by simp) fun w0 G0 => ?_
  refine WA_seq (x := (fcd Tryz.f40 [0])) (y := (fcd Tryz.f40 [1])) ?_
  refine V_regionX Γ Δ [] [0, 1, 2, 3, 4, 10, 12, 24] (evs ?_)
  all_goals (try with_reducible (repeat' (first | apply And.intro | intro _)))
  all_goals (try (first | with_reducible refine wa_id ?_ | exact True.intro | omega))
  refine WA_seq (x := (fcd Tryz.f40 [1, 0])) (y := (fcd Tryz.f40 [1, 1])) ?_
  refine WA_seq (x := (fcd Tryz.f40 [1, 0, 0])) (y := (fcd Tryz.f40 [1, 0, 1])) ?_
  refine V_regionX Γ Δ [] [0, 1, 2, 3, 4, 10, 12, 24] (evs ?_)
  all_goals (try with_reducible (repeat' (first | apply And.intro | intro _)))
  all_goals (try (first | with_reducible refine wa_id ?_ | exact True.intro | omega))
  refine V_cond (evs ?_)
  refine ⟨fun hc => ?_, fun hc => ?_⟩
  · refine WA_seq (x := (fcd Tryz.f40 [1, 0, 1, 0, 0])) (y := (fcd Tryz.f40 [1, 0, 1, 0, 1])) ?_
    refine V_regionX Γ Δ [] [0, 1, 2, 3, 4, 10, 12, 24] (evs ?_)
    all_goals (try with_reducible (repeat' (first | apply And.intro | intro _)))
    all_goals (try (first | with_reducible refine wa_id ?_ | exact True.intro | exact holds_fn _ _ _ (by assumption) (by omega) (by omega) | omega))
    refine V_ret (evs ?_)
    first | (rw [insH, if_pos hc]; done) | (rw [insH, if_neg ‹_›, if_pos hc]; done) | (rw [insH, if_neg ‹_›, if_neg hc]; done)
  · refine WA_skip ?_
    refine WA_seq (x := (fcd Tryz.f40 [1, 1, 0])) (y := (fcd Tryz.f40 [1, 1, 1])) ?_
    refine WA_seq (x := (fcd Tryz.f40 [1, 1, 0, 0])) (y := (fcd Tryz.f40 [1, 1, 0, 1])) ?_
    refine V_regionX Γ Δ [] [0, 1, 2, 3, 4, 10, 12, 24] (evs ?_)
    all_goals (try with_reducible (repeat' (first | apply And.intro | intro _)))
    all_goals (try (first | with_reducible refine wa_id ?_ | exact True.intro | omega))
    refine V_cond (evs ?_)
    refine ⟨fun hc => ?_, fun hc => ?_⟩
    · refine WA_seq (x := (fcd Tryz.f40 [1, 1, 0, 1, 0, 0])) (y := (fcd Tryz.f40 [1, 1, 0, 1, 0, 1])) ?_
      refine V_regionX Γ Δ [] [0, 1, 2, 3, 4, 10, 12, 24] (evs ?_)
      all_goals (try with_reducible (repeat' (first | apply And.intro | intro _)))
      all_goals (try (first | with_reducible refine wa_id ?_ | exact True.intro | exact holds_fn _ _ _ (by assumption) (by omega) (by omega) | omega))
      refine V_ret (evs ?_)
      first | (rw [insH, if_pos hc]; done) | (rw [insH, if_neg ‹_›, if_pos hc]; done) | (rw [insH, if_neg ‹_›, if_neg hc]; done)
    · refine WA_skip ?_
      refine WA_seq (x := (fcd Tryz.f40 [1, 1, 1, 0])) (y := (fcd Tryz.f40 [1, 1, 1, 1])) ?_
      refine V_regionX Γ Δ [] [0, 1, 2, 3, 4, 10, 12, 24] (evs ?_)
      all_goals (try with_reducible (repeat' (first | apply And.intro | intro _)))
      all_goals (try (first | with_reducible refine wa_id ?_ | exact True.intro | exact holds_fn _ _ _ (by assumption) (by omega) (by omega) | omega))
      refine V_ret (evs ?_)
      first | (rw [insH, if_pos hc]; done) | (rw [insH, if_neg ‹_›, if_pos hc]; done) | (rw [insH, if_neg ‹_›, if_neg hc]; done)

end Go.S03

