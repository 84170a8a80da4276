import Derived.Test.YtppghgoeibelkaaLD
import Derived.Test.YtppghgoeibelkaaB3
import Derived.Test.YtppghgoeibelkaaA1
import Derived.Test.YtppghgoeibelkaaA2
set_option linter.unusedSimpArgs false
set_option linter.unusedVariables false
namespace Go.S23
open Go.RowKit Go.Proofs Go.Eng Go.Rect
set_option maxHeartbeats 2000000 in
set_option maxRecDepth 100000 in
/-- imageeditor/imageeditorref23.round -/
theorem round_fn (r : Rc) (x y : Int) (hr : ElOk r) (hx : 0 ≤ x ∧ x < 4096) (hy : 0 ≤ y ∧ y < 4096) : Eng.Fn Try.prog 59 [rcD r, .i x, .i y] (.dat (.b (rndB r x y))) := by
  unfold ElOk at hr
  refine Eng.Fn.by (fn := Try.f59) 82 [.tmp 6] Try.func59 rfl Try.ntmps59 rfl (by simp) fun w0 => ?_
  refine WA_seq (x := (fcd Try.f59 [0])) (y := (fcd Try.f59 [1])) ?_
  refine V_regionX Γ Δ [] [0, 1, 2, 3, 6, 7, 8, 9, 10, 58] (evs ?_)
  all_goals (try with_reducible (repeat' (first | apply And.intro | intro _)))
  all_goals (try (first | with_reducible refine wa_id ?_ | exact True.intro | omega))
  refine WA_seq (x := (fcd Try.f59 [1, 0])) (y := (fcd Try.f59 [1, 1])) ?_
  refine V_regionX Γ Δ [] [0, 1, 2, 3, 6, 7, 8, 9, 10, 58] (evs ?_)
  simp (maxSteps := 10000000) (disch := omega) only [w64]
  all_goals (try with_reducible (repeat' (first | apply And.intro | intro _)))
  all_goals (try (first | with_reducible refine wa_id ?_ | exact True.intro | omega))
  refine WA_seq (x := (fcd Try.f59 [1, 1, 0])) (y := (fcd Try.f59 [1, 1, 1])) ?_
  refine V_regionX Γ Δ [] [0, 1, 2, 3, 6, 7, 8, 9, 10, 58] (evs ?_)
  simp (maxSteps := 10000000) (disch := omega) only [w64]
  all_goals (try with_reducible (repeat' (first | apply And.intro | intro _)))
  all_goals (try (first | with_reducible refine wa_id ?_ | exact True.intro | omega))
  refine WA_seq (x := (fcd Try.f59 [1, 1, 1, 0])) (y := (fcd Try.f59 [1, 1, 1, 1])) ?_
  refine V_regionX Γ Δ [] [0, 1, 2, 3, 6, 7, 8, 9, 10, 58] (evs ?_)
  simp (maxSteps := 10000000) (disch := omega) only [w64]
  all_goals (try with_reducible (repeat' (first | apply And.intro | intro _)))
  all_goals (try (first | with_reducible refine wa_id ?_ | exact True.intro | omega))
  refine WA_seq (x := (fcd Try.f59 [1, 1, 1, 1, 0])) (y := (fcd Try.f59 [1, 1, 1, 1, 1])) ?_
  refine V_regionX Γ Δ [] [0, 1, 2, 3, 6, 7, 8, 9, 10, 58] (evs ?_)
  simp (maxSteps := 10000000) (disch := omega) only [w64]
  all_goals (try with_reducible (repeat' (first | apply And.intro | intro _)))
  all_goals (try (first | with_reducible refine wa_id ?_ | exact True.intro | omega))
  refine WA_seq (x := (fcd Try.f59 [1, 1, 1, 1, 1, 0])) (y := (fcd Try.f59 [1, 1, 1, 1, 1, 1])) ?_
  refine WA_seq (x := (fcd Try.f59 [1, 1, 1, 1, 1, 0, 0])) (y := (fcd Try.f59 [1, 1, 1, 1, 1, 0, 1])) ?_
  refine V_regionX Γ Δ [] [0, 1, 2, 3, 6, 7, 8, 9, 10, 58] (evs ?_)
  simp (maxSteps := 10000000) (disch := omega) only [w64]
  all_goals (try with_reducible (repeat' (first | apply And.intro | intro _)))
  all_goals (try (first | with_reducible refine wa_id ?_ | exact True.intro | omega))
  refine V_cond (evs ?_)
  refine ⟨fun hc => ?_, fun hc => ?_⟩
  · refine WA_seq (x := (fcd Try.f59 [1, 1, 1, 1, 1, 0, 1, 0, 0])) (y := (fcd Try.f59 [1, 1, 1, 1, 1, 0, 1, 0, 1])) ?_
    refine V_regionX Γ Δ [] [0, 1, 2, 3, 6, 7, 8, 9, 10, 58] (evs ?_)
    all_goals (try with_reducible (repeat' (first | apply And.intro | intro _)))
    all_goals (try (first | with_reducible refine wa_id ?_ | exact True.intro | omega))
    refine V_ret (evs ?_)
    first | exact rd1 hc | exact rd2 (by omega) hc
  · refine WA_skip ?_
    refine WA_seq (x := (fcd Try.f59 [1, 1, 1, 1, 1, 1, 0])) (y := (fcd Try.f59 [1, 1, 1, 1, 1, 1, 1])) ?_
    refine V_regionX Γ Δ [] [0, 1, 2, 3, 6, 7, 8, 9, 10, 58] (evs ?_)
    all_goals (try with_reducible (repeat' (first | apply And.intro | intro _)))
    all_goals (try (first | with_reducible refine wa_id ?_ | exact True.intro | omega))
    refine V_ret (evs ?_)
    first | exact rd1 hc | exact rd2 (by omega) hc

set_option maxHeartbeats 4000000 in
/-- imageeditor/imageeditorref23.Ellipse -/
theorem rell_fn (w h : Int) (r : Rc) : Eng.Fn Try.prog 19 [.i w, .i h, rcD r] (.tup [.agg [.dat (.i (ellR w h r).w), .dat (.i (ellR w h r).h), .own 3 1 ((ellR w h r).v.map iC)], .dat (.i (ellE w h r))]) := by
  refine Eng.Fn.by (fn := Try.f19) 80 [.cell 6 24, .tmp 7] Try.func19 rfl Try.ntmps19 rfl (by simp) fun w0 => ?_
  refine WA_seq (x := (fcd Try.f19 [0])) (y := (fcd Try.f19 [1])) ?_
  refine V_regionX Γ Δ [76] [0, 1, 2, 5, 6, 7, 8, 9, 10, 11, 12, 13, 17, 31, 38, 43, 47, 51, 68] (evs ?_)
  all_goals (try with_reducible (repeat' (first | apply And.intro | intro _)))
  all_goals (try (first | with_reducible refine wa_id ?_ | exact True.intro | omega | (rw [tab_len]; omega)))
  refine WA_seq (x := (fcd Try.f19 [1, 0])) (y := (fcd Try.f19 [1, 1])) ?_
  refine WA_seq (x := (fcd Try.f19 [1, 0, 0])) (y := (fcd Try.f19 [1, 0, 1])) ?_
  refine V_regionX Γ Δ [76] [0, 1, 2, 5, 6, 7, 8, 9, 10, 11, 12, 13, 17, 31, 38, 43, 47, 51, 68] (evs ?_)
  all_goals (try with_reducible (repeat' (first | apply And.intro | intro _)))
  all_goals (try (first | with_reducible refine wa_id ?_ | exact True.intro | exact rsized_fn _ _ | omega | (rw [tab_len]; omega)))
  refine V_cond (evs ?_)
  refine ⟨fun hc => ?_, fun hc => ?_⟩
  · refine WA_seq (x := (fcd Try.f19 [1, 0, 1, 0, 0])) (y := (fcd Try.f19 [1, 0, 1, 0, 1])) ?_
    refine V_regionX Γ Δ [76] [0, 1, 2, 5, 6, 7, 8, 9, 10, 11, 12, 13, 17, 31, 38, 43, 47, 51, 68] (evs ?_)
    all_goals (try with_reducible (repeat' (first | apply And.intro | intro _)))
    all_goals (try (first | with_reducible refine wa_id ?_ | exact True.intro | omega | (rw [tab_len]; omega)))
    refine V_ret (evs ?_)
    first | exact bk0 _ (el1r hc) | exact bk0 _ (el2 hs hc) | (rw [yall hY hc]; exact bk _ (el3 hs hv))
  · refine WA_skip ?_
    refine WA_seq (x := (fcd Try.f19 [1, 1, 0])) (y := (fcd Try.f19 [1, 1, 1])) ?_
    refine WA_seq (x := (fcd Try.f19 [1, 1, 0, 0])) (y := (fcd Try.f19 [1, 1, 0, 1])) ?_
    refine V_regionX Γ Δ [76] [0, 1, 2, 5, 6, 7, 8, 9, 10, 11, 12, 13, 17, 31, 38, 43, 47, 51, 68] (evs ?_)
    have hs := sized_T.1 ‹sizedB w h = true›
    have hz := sz_z hs
    have hb := nn_bd hz
    have hs2 := hs
    unfold SzOk at hs2
    all_goals (try with_reducible (repeat' (first | apply And.intro | intro _)))
    all_goals (try (first | with_reducible refine wa_id ?_ | exact True.intro | exact rvalid_fn _ | omega | (rw [tab_len]; omega)))
    refine V_cond (evs ?_)
    refine ⟨fun hc => ?_, fun hc => ?_⟩
    · refine WA_seq (x := (fcd Try.f19 [1, 1, 0, 1, 0, 0])) (y := (fcd Try.f19 [1, 1, 0, 1, 0, 1])) ?_
      refine V_regionX Γ Δ [76] [0, 1, 2, 5, 6, 7, 8, 9, 10, 11, 12, 13, 17, 31, 38, 43, 47, 51, 68] (evs ?_)
      all_goals (try with_reducible (repeat' (first | apply And.intro | intro _)))
      all_goals (try (first | with_reducible refine wa_id ?_ | exact True.intro | omega | (rw [tab_len]; omega)))
      refine V_ret (evs ?_)
      first | exact bk0 _ (el1r hc) | exact bk0 _ (el2 hs hc) | (rw [yall hY hc]; exact bk _ (el3 hs hv))
    · refine WA_skip ?_
      refine WA_seq (x := (fcd Try.f19 [1, 1, 1, 0])) (y := (fcd Try.f19 [1, 1, 1, 1])) ?_
      refine V_regionX Γ Δ [76] [0, 1, 2, 5, 6, 7, 8, 9, 10, 11, 12, 13, 17, 31, 38, 43, 47, 51, 68] (evs ?_)
      have hv := hc
      all_goals (try with_reducible (repeat' (first | apply And.intro | intro _)))
      all_goals (try (first | with_reducible refine wa_id ?_ | exact True.intro | omega | (rw [tab_len]; omega)))
      refine WA_seq (x := (fcd Try.f19 [1, 1, 1, 1, 0])) (y := (fcd Try.f19 [1, 1, 1, 1, 1])) ?_
      refine WA_seq (x := (fcd Try.f19 [1, 1, 1, 1, 0, 0])) (y := (fcd Try.f19 [1, 1, 1, 1, 0, 1])) ?_
      refine V_regionX Γ Δ [76] [0, 1, 2, 5, 6, 7, 8, 9, 10, 11, 12, 13, 17, 31, 38, 43, 47, 51, 68] (evs ?_)
      all_goals (try with_reducible (repeat' (first | apply And.intro | intro _)))
      all_goals (try (first | with_reducible refine wa_id ?_ | exact True.intro | omega | (rw [tab_len]; omega)))
      refine WA_block (c := (fcd Try.f19 [1, 1, 1, 1, 0, 1, 0])) ?_
      refine V_loop (c := (fcd Try.f19 [1, 1, 1, 1, 0, 1, 0, 0])) (α := Nat) [9, 10, 11, 12, 13, 38, 43, 47, 51, 68] [8, 76, 77, 15500, 15501, 15502, 15503, 16700, 16701, 16702, 16703, 17500, 17501, 17502, 17503] (fun y => [(9, .dat (.i (y : Int)))]) (fun y => [(20000, some (true, .arr 3 1 ((tab (y * w.toNat) (gF w.toNat (eF r))).map iC))), (8, some (true, .box 24 [.dat (.i w), .dat (.i h), .vw 20000 0 (y * w.toNat) 1]))]) (fun y => y ≤ h.toNat) (fun y => h.toNat - y) 0 [(20000, none)] ?_ (evs ?_) ?_
      · exact Nat.zero_le _
      · (try with_reducible (repeat' (first | apply And.intro | intro _)))
        all_goals (first | exact True.intro | omega | (first | rfl | (simp [tab]; done)))
      · intro y hY
        refine WA_seq (x := (fcd Try.f19 [1, 1, 1, 1, 0, 1, 0, 0, 0])) (y := (fcd Try.f19 [1, 1, 1, 1, 0, 1, 0, 0, 1])) ?_
        refine WA_seq (x := (fcd Try.f19 [1, 1, 1, 1, 0, 1, 0, 0, 0, 0])) (y := (fcd Try.f19 [1, 1, 1, 1, 0, 1, 0, 0, 0, 1])) ?_
        refine V_regionX Γ Δ [76] [0, 1, 2, 5, 6, 7, 8, 9, 10, 11, 12, 13, 17, 31, 38, 43, 47, 51, 68] (evs ?_)
        all_goals (try with_reducible (repeat' (first | apply And.intro | intro _)))
        all_goals (try (first | with_reducible refine wa_id ?_ | exact True.intro | omega | (rw [tab_len]; omega)))
        refine V_cond (evs ?_)
        refine ⟨fun hc => ?_, fun hc => ?_⟩
        · refine WA_skip ?_
          refine WA_seq (x := (fcd Try.f19 [1, 1, 1, 1, 0, 1, 0, 0, 1, 0])) (y := (fcd Try.f19 [1, 1, 1, 1, 0, 1, 0, 0, 1, 1])) ?_
          refine WA_block (c := (fcd Try.f19 [1, 1, 1, 1, 0, 1, 0, 0, 1, 0, 0])) ?_
          refine WA_seq (x := (fcd Try.f19 [1, 1, 1, 1, 0, 1, 0, 0, 1, 0, 0, 0])) (y := (fcd Try.f19 [1, 1, 1, 1, 0, 1, 0, 0, 1, 0, 0, 1])) ?_
          refine V_regionX Γ Δ [76] [0, 1, 2, 5, 6, 7, 8, 9, 10, 11, 12, 13, 17, 31, 38, 43, 47, 51, 68] (evs ?_)
          all_goals (try with_reducible (repeat' (first | apply And.intro | intro _)))
          all_goals (try (first | with_reducible refine wa_id ?_ | exact True.intro | omega | (rw [tab_len]; omega)))
          refine WA_block (c := (fcd Try.f19 [1, 1, 1, 1, 0, 1, 0, 0, 1, 0, 0, 1, 0])) ?_
          refine V_loop (c := (fcd Try.f19 [1, 1, 1, 1, 0, 1, 0, 0, 1, 0, 0, 1, 0, 0])) (α := Nat) [10, 11, 12, 13, 43, 47, 51, 68] [8, 76, 77, 15500, 15501, 15502, 15503, 16700, 16701, 16702, 16703, 17500, 17501, 17502, 17503, 20000] (fun x => [(10, .dat (.i (x : Int)))]) (fun x => [(20001, some (true, .arr 3 1 ((tab (y * w.toNat + x) (gF w.toNat (eF r))).map iC))), (8, some (true, .box 24 [.dat (.i w), .dat (.i h), .vw 20001 0 (y * w.toNat + x) 1]))]) (fun x => x ≤ w.toNat) (fun x => w.toNat - x) 0 [(20001, some 20000)] ?_ (evs ?_) ?_
          · exact Nat.zero_le _
          · (try with_reducible (repeat' (first | apply And.intro | intro _)))
            all_goals (first | exact True.intro | omega | (first | rfl | (simp [tab]; done)))
          · intro x hX
            refine WA_seq (x := (fcd Try.f19 [1, 1, 1, 1, 0, 1, 0, 0, 1, 0, 0, 1, 0, 0, 0])) (y := (fcd Try.f19 [1, 1, 1, 1, 0, 1, 0, 0, 1, 0, 0, 1, 0, 0, 1])) ?_
            refine WA_seq (x := (fcd Try.f19 [1, 1, 1, 1, 0, 1, 0, 0, 1, 0, 0, 1, 0, 0, 0, 0])) (y := (fcd Try.f19 [1, 1, 1, 1, 0, 1, 0, 0, 1, 0, 0, 1, 0, 0, 0, 1])) ?_
            refine V_regionX Γ Δ [76] [0, 1, 2, 5, 6, 7, 8, 9, 10, 11, 12, 13, 17, 31, 38, 43, 47, 51, 68] (evs ?_)
            all_goals (try with_reducible (repeat' (first | apply And.intro | intro _)))
            all_goals (try (first | with_reducible refine wa_id ?_ | exact True.intro | omega | (rw [tab_len]; omega)))
            refine V_cond (evs ?_)
            refine ⟨fun hc => ?_, fun hc => ?_⟩
            · refine WA_skip ?_
              refine WA_seq (x := (fcd Try.f19 [1, 1, 1, 1, 0, 1, 0, 0, 1, 0, 0, 1, 0, 0, 1, 0])) (y := (fcd Try.f19 [1, 1, 1, 1, 0, 1, 0, 0, 1, 0, 0, 1, 0, 0, 1, 1])) ?_
              refine WA_block (c := (fcd Try.f19 [1, 1, 1, 1, 0, 1, 0, 0, 1, 0, 0, 1, 0, 0, 1, 0, 0])) ?_
              refine WA_seq (x := (fcd Try.f19 [1, 1, 1, 1, 0, 1, 0, 0, 1, 0, 0, 1, 0, 0, 1, 0, 0, 0])) (y := (fcd Try.f19 [1, 1, 1, 1, 0, 1, 0, 0, 1, 0, 0, 1, 0, 0, 1, 0, 0, 1])) ?_
              refine V_regionX Γ Δ [76] [0, 1, 2, 5, 6, 7, 8, 9, 10, 11, 12, 13, 17, 31, 38, 43, 47, 51, 68] (evs ?_)
              all_goals (try with_reducible (repeat' (first | apply And.intro | intro _)))
              all_goals (try (first | with_reducible refine wa_id ?_ | exact True.intro | omega | (rw [tab_len]; omega)))
              refine WA_seq (x := (fcd Try.f19 [1, 1, 1, 1, 0, 1, 0, 0, 1, 0, 0, 1, 0, 0, 1, 0, 0, 1, 0])) (y := (fcd Try.f19 [1, 1, 1, 1, 0, 1, 0, 0, 1, 0, 0, 1, 0, 0, 1, 0, 0, 1, 1])) ?_
              refine WA_seq (x := (fcd Try.f19 [1, 1, 1, 1, 0, 1, 0, 0, 1, 0, 0, 1, 0, 0, 1, 0, 0, 1, 0, 0])) (y := (fcd Try.f19 [1, 1, 1, 1, 0, 1, 0, 0, 1, 0, 0, 1, 0, 0, 1, 0, 0, 1, 0, 1])) ?_
              refine V_regionX Γ Δ [76] [0, 1, 2, 5, 6, 7, 8, 9, 10, 11, 12, 13, 17, 31, 38, 43, 47, 51, 68] (evs ?_)
              all_goals (try with_reducible (repeat' (first | apply And.intro | intro _)))
              all_goals (try (first | with_reducible refine wa_id ?_ | exact True.intro | omega | (rw [tab_len]; omega)))
              refine WA_block (c := (fcd Try.f19 [1, 1, 1, 1, 0, 1, 0, 0, 1, 0, 0, 1, 0, 0, 1, 0, 0, 1, 0, 1, 0])) ?_
              refine V_loop (c := (fcd Try.f19 [1, 1, 1, 1, 0, 1, 0, 0, 1, 0, 0, 1, 0, 0, 1, 0, 0, 1, 0, 1, 0, 0])) (α := Nat) [11, 12, 13, 47, 51, 68] [15500, 15501, 15502, 15503, 16700, 16701, 16702, 16703] (fun j => [(12, .dat (.i (j : Int))), (11, .dat (.i (cnt2 (rndE r (x : Int) (y : Int)) j 0)))]) (fun j => []) (fun j => j ≤ 16) (fun j => 16 - j) 0 [] ?_ (evs ?_) ?_
              · exact Nat.zero_le _
              · (try with_reducible (repeat' (first | apply And.intro | intro _)))
                all_goals (first | exact True.intro | omega | (first | rfl))
              · intro j hJ
                refine WA_seq (x := (fcd Try.f19 [1, 1, 1, 1, 0, 1, 0, 0, 1, 0, 0, 1, 0, 0, 1, 0, 0, 1, 0, 1, 0, 0, 0])) (y := (fcd Try.f19 [1, 1, 1, 1, 0, 1, 0, 0, 1, 0, 0, 1, 0, 0, 1, 0, 0, 1, 0, 1, 0, 0, 1])) ?_
                refine WA_seq (x := (fcd Try.f19 [1, 1, 1, 1, 0, 1, 0, 0, 1, 0, 0, 1, 0, 0, 1, 0, 0, 1, 0, 1, 0, 0, 0, 0])) (y := (fcd Try.f19 [1, 1, 1, 1, 0, 1, 0, 0, 1, 0, 0, 1, 0, 0, 1, 0, 0, 1, 0, 1, 0, 0, 0, 1])) ?_
                refine V_regionX Γ Δ [76] [0, 1, 2, 5, 6, 7, 8, 9, 10, 11, 12, 13, 17, 31, 38, 43, 47, 51, 68] (evs ?_)
                all_goals (try with_reducible (repeat' (first | apply And.intro | intro _)))
                all_goals (try (first | with_reducible refine wa_id ?_ | exact True.intro | omega | (rw [tab_len]; omega)))
                refine V_cond (evs ?_)
                refine ⟨fun hc => ?_, fun hc => ?_⟩
                · refine WA_skip ?_
                  refine WA_seq (x := (fcd Try.f19 [1, 1, 1, 1, 0, 1, 0, 0, 1, 0, 0, 1, 0, 0, 1, 0, 0, 1, 0, 1, 0, 0, 1, 0])) (y := (fcd Try.f19 [1, 1, 1, 1, 0, 1, 0, 0, 1, 0, 0, 1, 0, 0, 1, 0, 0, 1, 0, 1, 0, 0, 1, 1])) ?_
                  refine WA_block (c := (fcd Try.f19 [1, 1, 1, 1, 0, 1, 0, 0, 1, 0, 0, 1, 0, 0, 1, 0, 0, 1, 0, 1, 0, 0, 1, 0, 0])) ?_
                  refine WA_seq (x := (fcd Try.f19 [1, 1, 1, 1, 0, 1, 0, 0, 1, 0, 0, 1, 0, 0, 1, 0, 0, 1, 0, 1, 0, 0, 1, 0, 0, 0])) (y := (fcd Try.f19 [1, 1, 1, 1, 0, 1, 0, 0, 1, 0, 0, 1, 0, 0, 1, 0, 0, 1, 0, 1, 0, 0, 1, 0, 0, 1])) ?_
                  refine V_regionX Γ Δ [76] [0, 1, 2, 5, 6, 7, 8, 9, 10, 11, 12, 13, 17, 31, 38, 43, 47, 51, 68] (evs ?_)
                  all_goals (try with_reducible (repeat' (first | apply And.intro | intro _)))
                  all_goals (try (first | with_reducible refine wa_id ?_ | exact True.intro | omega | (rw [tab_len]; omega)))
                  refine WA_block (c := (fcd Try.f19 [1, 1, 1, 1, 0, 1, 0, 0, 1, 0, 0, 1, 0, 0, 1, 0, 0, 1, 0, 1, 0, 0, 1, 0, 0, 1, 0])) ?_
                  refine V_loop (c := (fcd Try.f19 [1, 1, 1, 1, 0, 1, 0, 0, 1, 0, 0, 1, 0, 0, 1, 0, 0, 1, 0, 1, 0, 0, 1, 0, 0, 1, 0, 0])) (α := Nat) [11, 13, 51, 68] [15500, 15501, 15502, 15503, 16700, 16701, 16702, 16703] (fun i => [(13, .dat (.i (i : Int))), (11, .dat (.i (cnt2 (rndE r (x : Int) (y : Int)) j i)))]) (fun i => []) (fun i => i ≤ 16) (fun i => 16 - i) 0 [] ?_ (evs ?_) ?_
                  · exact Nat.zero_le _
                  · (try with_reducible (repeat' (first | apply And.intro | intro _)))
                    all_goals (first | exact True.intro | omega | (first | rfl))
                  · intro i hI
                    refine WA_seq (x := (fcd Try.f19 [1, 1, 1, 1, 0, 1, 0, 0, 1, 0, 0, 1, 0, 0, 1, 0, 0, 1, 0, 1, 0, 0, 1, 0, 0, 1, 0, 0, 0])) (y := (fcd Try.f19 [1, 1, 1, 1, 0, 1, 0, 0, 1, 0, 0, 1, 0, 0, 1, 0, 0, 1, 0, 1, 0, 0, 1, 0, 0, 1, 0, 0, 1])) ?_
                    refine WA_seq (x := (fcd Try.f19 [1, 1, 1, 1, 0, 1, 0, 0, 1, 0, 0, 1, 0, 0, 1, 0, 0, 1, 0, 1, 0, 0, 1, 0, 0, 1, 0, 0, 0, 0])) (y := (fcd Try.f19 [1, 1, 1, 1, 0, 1, 0, 0, 1, 0, 0, 1, 0, 0, 1, 0, 0, 1, 0, 1, 0, 0, 1, 0, 0, 1, 0, 0, 0, 1])) ?_
                    refine V_regionX Γ Δ [76] [0, 1, 2, 5, 6, 7, 8, 9, 10, 11, 12, 13, 17, 31, 38, 43, 47, 51, 68] (evs ?_)
                    all_goals (try with_reducible (repeat' (first | apply And.intro | intro _)))
                    all_goals (try (first | with_reducible refine wa_id ?_ | exact True.intro | omega | (rw [tab_len]; omega)))
                    refine V_cond (evs ?_)
                    refine ⟨fun hc => ?_, fun hc => ?_⟩
                    · refine WA_skip ?_
                      refine WA_seq (x := (fcd Try.f19 [1, 1, 1, 1, 0, 1, 0, 0, 1, 0, 0, 1, 0, 0, 1, 0, 0, 1, 0, 1, 0, 0, 1, 0, 0, 1, 0, 0, 1, 0])) (y := (fcd Try.f19 [1, 1, 1, 1, 0, 1, 0, 0, 1, 0, 0, 1, 0, 0, 1, 0, 0, 1, 0, 1, 0, 0, 1, 0, 0, 1, 0, 0, 1, 1])) ?_
                      refine WA_block (c := (fcd Try.f19 [1, 1, 1, 1, 0, 1, 0, 0, 1, 0, 0, 1, 0, 0, 1, 0, 0, 1, 0, 1, 0, 0, 1, 0, 0, 1, 0, 0, 1, 0, 0])) ?_
                      refine WA_seq (x := (fcd Try.f19 [1, 1, 1, 1, 0, 1, 0, 0, 1, 0, 0, 1, 0, 0, 1, 0, 0, 1, 0, 1, 0, 0, 1, 0, 0, 1, 0, 0, 1, 0, 0, 0])) (y := (fcd Try.f19 [1, 1, 1, 1, 0, 1, 0, 0, 1, 0, 0, 1, 0, 0, 1, 0, 0, 1, 0, 1, 0, 0, 1, 0, 0, 1, 0, 0, 1, 0, 0, 1])) ?_
                      refine V_regionX Γ Δ [76] [0, 1, 2, 5, 6, 7, 8, 9, 10, 11, 12, 13, 17, 31, 38, 43, 47, 51, 68] (evs ?_)
                      have := ‹(y : Int) < h›
                      have := ‹(x : Int) < w›
                      have := ‹(j : Int) < 16›
                      have := ‹(i : Int) < 16›
                      simp (maxSteps := 10000000) (disch := omega) only [w64]
                      all_goals (try with_reducible (repeat' (first | apply And.intro | intro _)))
                      all_goals (try (first | with_reducible refine wa_id ?_ | exact True.intro | exact rempty_fn _ | exact round_fn ⟨_, _, _, _⟩ _ _ (elOk hv ‹emptyB r = false›) (by omega) (by omega) | omega | (rw [tab_len]; omega)))
                      refine V_cond (evs ?_)
                      refine ⟨fun hc => ?_, fun hc => ?_⟩
                      · refine V_regionX Γ Δ [76] [0, 1, 2, 5, 6, 7, 8, 9, 10, 11, 12, 13, 17, 31, 38, 43, 47, 51, 68] (evs ?_)
                        have hk := cnt2_bd (rndE r (x : Int) (y : Int)) j i (by omega)
                        all_goals (try with_reducible (repeat' (first | apply And.intro | intro _)))
                        all_goals (try (first | with_reducible refine wa_id ?_ | exact True.intro | omega | (rw [tab_len]; omega)))
                        refine V_regionX Γ Δ [76] [0, 1, 2, 5, 6, 7, 8, 9, 10, 11, 12, 13, 17, 31, 38, 43, 47, 51, 68] (evs ?_)
                        all_goals (try with_reducible (repeat' (first | apply And.intro | intro _)))
                        all_goals (try (first | with_reducible refine wa_id ?_ | exact True.intro | omega | (rw [tab_len]; omega)))
                        refine V_next [] (i + 1) (evs ?_) ?_ ?_
                        all_goals (try with_reducible (repeat' (first | apply And.intro | intro _)))
                        all_goals (first | exact True.intro | omega | (first | exact w64l (n := 16) (by omega) (by omega) | (rw [w64 (by omega) (by omega), cnt2_succ, re_1 hc]; rfl) | (rw [cnt2_succ, re_0 hc]; simp [b2i]; done)))
                      · refine WA_skip ?_
                        refine V_regionX Γ Δ [76] [0, 1, 2, 5, 6, 7, 8, 9, 10, 11, 12, 13, 17, 31, 38, 43, 47, 51, 68] (evs ?_)
                        all_goals (try with_reducible (repeat' (first | apply And.intro | intro _)))
                        all_goals (try (first | with_reducible refine wa_id ?_ | exact True.intro | omega | (rw [tab_len]; omega)))
                        refine V_next [] (i + 1) (evs ?_) ?_ ?_
                        all_goals (try with_reducible (repeat' (first | apply And.intro | intro _)))
                        all_goals (first | exact True.intro | omega | (first | exact w64l (n := 16) (by omega) (by omega) | (rw [w64 (by omega) (by omega), cnt2_succ, re_1 hc]; rfl) | (rw [cnt2_succ, re_0 hc]; simp [b2i]; done)))
                    · refine V_exit (evs ?_)
                      refine V_regionX Γ Δ [76] [0, 1, 2, 5, 6, 7, 8, 9, 10, 11, 12, 13, 17, 31, 38, 43, 47, 51, 68] (evs ?_)
                      all_goals (try with_reducible (repeat' (first | apply And.intro | intro _)))
                      all_goals (try (first | with_reducible refine wa_id ?_ | exact True.intro | omega | (rw [tab_len]; omega)))
                      refine V_next [] (j + 1) (evs ?_) ?_ ?_
                      all_goals (try with_reducible (repeat' (first | apply And.intro | intro _)))
                      all_goals (first | exact True.intro | omega | (first | exact w64l (n := 16) (by omega) (by omega) | exact cnt2_over _ (by omega)))
                · refine V_exit (evs ?_)
                  refine V_draw Γ [76] [0, 1, 2, 5, 6, 7, 8, 9, 10, 11, 12, 13, 17, 31, 38, 43, 47, 51, 68] mixed (by kernel_rfl) (evs ?_)
                  have hi := yxI hz ‹(y : Int) < _› ‹(x : Int) < _›
                  have ha := ap_b hz ‹(y : Int) < _› ‹(x : Int) < _›
                  have hj16 : j = 16 := by omega
                  subst hj16
                  have hk := cnt2_bd (rndE r (x : Int) (y : Int)) 16 0 (by omega)
                  simp (maxSteps := 10000000) (disch := omega) only [w64]
                  all_goals (try with_reducible (repeat' (first | apply And.intro | intro _)))
                  all_goals (try (first | with_reducible refine wa_id ?_ | exact True.intro | exact rdiv_fn _ _ (by omega) (by omega) (by omega) (by omega) | omega | (rw [tab_len]; omega)))
                  simp only [eFE2]
                  refine V_regionX Γ Δ [76] [0, 1, 2, 5, 6, 7, 8, 9, 10, 11, 12, 13, 17, 31, 38, 43, 47, 51, 68] (evs ?_)
                  all_goals (try with_reducible (repeat' (first | apply And.intro | intro _)))
                  all_goals (try (first | with_reducible refine wa_id ?_ | exact True.intro | omega | (rw [tab_len]; omega)))
                  refine V_next [(20001, some 77)] (x + 1) (evs ?_) ?_ ?_
                  all_goals (try with_reducible (repeat' (first | apply And.intro | intro _)))
                  all_goals (first | exact True.intro | omega | (first | exact w64l (n := 256) (by omega) (by omega) | exact tab_app (gF_at (F := eF r) (show x < w.toNat by omega)).symm))
            · refine V_exit (evs ?_)
              refine V_regionX Γ Δ [76] [0, 1, 2, 5, 6, 7, 8, 9, 10, 11, 12, 13, 17, 31, 38, 43, 47, 51, 68] (evs ?_)
              all_goals (try with_reducible (repeat' (first | apply And.intro | intro _)))
              all_goals (try (first | with_reducible refine wa_id ?_ | exact True.intro | omega | (rw [tab_len]; omega)))
              refine V_next [(20000, some 20001)] (y + 1) (evs ?_) ?_ ?_
              all_goals (try with_reducible (repeat' (first | apply And.intro | intro _)))
              all_goals (first | exact True.intro | omega | (first | exact w64l (n := 256) (by omega) (by omega) | (rw [row_e (w := w.toNat) (y := y) (x := x) (by omega) (by omega)]; done)))
        · refine V_exit (evs ?_)
          refine WA_seq (x := (fcd Try.f19 [1, 1, 1, 1, 1, 0])) (y := (fcd Try.f19 [1, 1, 1, 1, 1, 1])) ?_
          refine V_regionX Γ Δ [76] [0, 1, 2, 5, 6, 7, 8, 9, 10, 11, 12, 13, 17, 31, 38, 43, 47, 51, 68] (evs ?_)
          all_goals (try with_reducible (repeat' (first | apply And.intro | intro _)))
          all_goals (try (first | with_reducible refine wa_id ?_ | exact True.intro | omega | (rw [tab_len]; omega)))
          refine V_ret (evs ?_)
          first | exact bk0 _ (el1r hc) | exact bk0 _ (el2 hs hc) | (rw [yall hY hc]; exact bk _ (el3 hs hv))

end Go.S23

