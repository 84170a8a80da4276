import Derived.Test.YtppghgoeibelkaaLE
import Derived.Test.YtppghgoeibelkaaB3
import Derived.Test.YtppghgoeibelkaaA1
set_option linter.unusedSimpArgs false
set_option linter.unusedVariables false
namespace Go.S23
open Go.RowKit Go.Proofs Go.Eng Go.Rect
set_option maxHeartbeats 4000000 in
set_option maxRecDepth 100000 in
/-- imageeditor/mask.Crop -/
theorem crop_fn (m : Mk) (r : Rc) : Eng.Fn Try.prog 38 [mkD m, rcD r] (.tup [.agg [.dat (.i (cropR m r).w), .dat (.i (cropR m r).h), .own 3 1 ((cropR m r).v.map iC)], .dat (.i (cropE m r))]) := by
  refine Eng.Fn.by (fn := Try.f38) 90 [.cell 4 24, .tmp 5] Try.func38 rfl Try.ntmps38 rfl (by simp) fun w0 => ?_
  refine WA_seq (x := (fcd Try.f38 [0])) (y := (fcd Try.f38 [1])) ?_
  refine V_regionX Γ Δ [] [0, 1, 2, 3, 4, 5, 6, 7, 8, 9, 13, 18, 27, 35, 43, 44, 45, 48, 49, 50, 61] (evs ?_)
  all_goals (try with_reducible (repeat' (first | apply And.intro | intro _)))
  all_goals (try (first | with_reducible refine wa_id ?_ | exact True.intro | omega))
  refine WA_seq (x := (fcd Try.f38 [1, 0])) (y := (fcd Try.f38 [1, 1])) ?_
  refine WA_seq (x := (fcd Try.f38 [1, 0, 0])) (y := (fcd Try.f38 [1, 0, 1])) ?_
  refine V_regionX Γ Δ [] [0, 1, 2, 3, 4, 5, 6, 7, 8, 9, 13, 18, 27, 35, 43, 44, 45, 48, 49, 50, 61] (evs ?_)
  all_goals (try with_reducible (repeat' (first | apply And.intro | intro _)))
  all_goals (try (first | with_reducible refine wa_id ?_ | exact True.intro | exact mcheck_fn ⟨_, _, _⟩ | omega))
  refine WA_seq (x := (fcd Try.f38 [1, 0, 1, 0])) (y := (fcd Try.f38 [1, 0, 1, 1])) ?_
  refine V_regionX Γ Δ [] [0, 1, 2, 3, 4, 5, 6, 7, 8, 9, 13, 18, 27, 35, 43, 44, 45, 48, 49, 50, 61] (evs ?_)
  all_goals (try with_reducible (repeat' (first | apply And.intro | intro _)))
  all_goals (try (first | with_reducible refine wa_id ?_ | exact True.intro | omega))
  refine V_cond (evs ?_)
  refine ⟨fun hc => ?_, fun hc => ?_⟩
  · refine WA_seq (x := (fcd Try.f38 [1, 0, 1, 1, 0, 0])) (y := (fcd Try.f38 [1, 0, 1, 1, 0, 1])) ?_
    refine V_regionX Γ Δ [] [0, 1, 2, 3, 4, 5, 6, 7, 8, 9, 13, 18, 27, 35, 43, 44, 45, 48, 49, 50, 61] (evs ?_)
    all_goals (try with_reducible (repeat' (first | apply And.intro | intro _)))
    all_goals (try (first | with_reducible refine wa_id ?_ | exact True.intro | omega))
    refine V_ret (evs ?_)
    first | exact bk0 _ (cp1 hc) | exact bk0 _ (cp2 ‹_› hc) | exact bk0 _ (cp3 ‹_› ‹_› hc) | exact bk0 _ (cp4 ‹_› ‹_› ‹_› hc) | (rw [fall hY hc]; exact bk _ (cp5 hm hv hs hw)) | (rw [yall hY hc]; exact bk _ (cp5 hm hv hs hw))
  · refine WA_skip ?_
    refine WA_seq (x := (fcd Try.f38 [1, 1, 0])) (y := (fcd Try.f38 [1, 1, 1])) ?_
    refine WA_seq (x := (fcd Try.f38 [1, 1, 0, 0])) (y := (fcd Try.f38 [1, 1, 0, 1])) ?_
    refine V_regionX Γ Δ [] [0, 1, 2, 3, 4, 5, 6, 7, 8, 9, 13, 18, 27, 35, 43, 44, 45, 48, 49, 50, 61] (evs ?_)
    all_goals (try with_reducible (repeat' (first | apply And.intro | intro _)))
    all_goals (try (first | with_reducible refine wa_id ?_ | exact True.intro | exact valid_fn _ | omega))
    refine V_cond (evs ?_)
    refine ⟨fun hc => ?_, fun hc => ?_⟩
    · refine WA_seq (x := (fcd Try.f38 [1, 1, 0, 1, 0, 0])) (y := (fcd Try.f38 [1, 1, 0, 1, 0, 1])) ?_
      refine V_regionX Γ Δ [] [0, 1, 2, 3, 4, 5, 6, 7, 8, 9, 13, 18, 27, 35, 43, 44, 45, 48, 49, 50, 61] (evs ?_)
      all_goals (try with_reducible (repeat' (first | apply And.intro | intro _)))
      all_goals (try (first | with_reducible refine wa_id ?_ | exact True.intro | omega))
      refine V_ret (evs ?_)
      first | exact bk0 _ (cp1 hc) | exact bk0 _ (cp2 ‹_› hc) | exact bk0 _ (cp3 ‹_› ‹_› hc) | exact bk0 _ (cp4 ‹_› ‹_› ‹_› hc) | (rw [fall hY hc]; exact bk _ (cp5 hm hv hs hw)) | (rw [yall hY hc]; exact bk _ (cp5 hm hv hs hw))
    · refine WA_skip ?_
      refine WA_seq (x := (fcd Try.f38 [1, 1, 1, 0])) (y := (fcd Try.f38 [1, 1, 1, 1])) ?_
      refine WA_seq (x := (fcd Try.f38 [1, 1, 1, 0, 0])) (y := (fcd Try.f38 [1, 1, 1, 0, 1])) ?_
      refine V_regionX Γ Δ [] [0, 1, 2, 3, 4, 5, 6, 7, 8, 9, 13, 18, 27, 35, 43, 44, 45, 48, 49, 50, 61] (evs ?_)
      all_goals (try with_reducible (repeat' (first | apply And.intro | intro _)))
      all_goals (try (first | with_reducible refine wa_id ?_ | exact True.intro | omega))
      refine V_cond (evs ?_)
      refine ⟨fun hc => ?_, fun hc => ?_⟩
      · refine WA_seq (x := (fcd Try.f38 [1, 1, 1, 0, 1, 0, 0])) (y := (fcd Try.f38 [1, 1, 1, 0, 1, 0, 1])) ?_
        refine V_regionX Γ Δ [] [0, 1, 2, 3, 4, 5, 6, 7, 8, 9, 13, 18, 27, 35, 43, 44, 45, 48, 49, 50, 61] (evs ?_)
        all_goals (try with_reducible (repeat' (first | apply And.intro | intro _)))
        all_goals (try (first | with_reducible refine wa_id ?_ | exact True.intro | omega))
        refine V_ret (evs ?_)
        first | exact bk0 _ (cp1 hc) | exact bk0 _ (cp2 ‹_› hc) | exact bk0 _ (cp3 ‹_› ‹_› hc) | exact bk0 _ (cp4 ‹_› ‹_› ‹_› hc) | (rw [fall hY hc]; exact bk _ (cp5 hm hv hs hw)) | (rw [yall hY hc]; exact bk _ (cp5 hm hv hs hw))
      · refine WA_skip ?_
        refine WA_seq (x := (fcd Try.f38 [1, 1, 1, 1, 0])) (y := (fcd Try.f38 [1, 1, 1, 1, 1])) ?_
        refine WA_seq (x := (fcd Try.f38 [1, 1, 1, 1, 0, 0])) (y := (fcd Try.f38 [1, 1, 1, 1, 0, 1])) ?_
        refine V_regionX Γ Δ [] [0, 1, 2, 3, 4, 5, 6, 7, 8, 9, 13, 18, 27, 35, 43, 44, 45, 48, 49, 50, 61] (evs ?_)
        all_goals (try with_reducible (repeat' (first | apply And.intro | intro _)))
        all_goals (try (first | with_reducible refine wa_id ?_ | exact True.intro | exact empty_fn _ | omega))
        refine V_cond (evs ?_)
        refine ⟨fun hc => ?_, fun hc => ?_⟩
        · refine WA_seq (x := (fcd Try.f38 [1, 1, 1, 1, 0, 1, 0, 0])) (y := (fcd Try.f38 [1, 1, 1, 1, 0, 1, 0, 1])) ?_
          refine V_regionX Γ Δ [] [0, 1, 2, 3, 4, 5, 6, 7, 8, 9, 13, 18, 27, 35, 43, 44, 45, 48, 49, 50, 61] (evs ?_)
          all_goals (try with_reducible (repeat' (first | apply And.intro | intro _)))
          all_goals (try (first | with_reducible refine wa_id ?_ | exact True.intro | omega))
          refine V_ret (evs ?_)
          first | exact bk0 _ (cp1 hc) | exact bk0 _ (cp2 ‹_› hc) | exact bk0 _ (cp3 ‹_› ‹_› hc) | exact bk0 _ (cp4 ‹_› ‹_› ‹_› hc) | (rw [fall hY hc]; exact bk _ (cp5 hm hv hs hw)) | (rw [yall hY hc]; exact bk _ (cp5 hm hv hs hw))
        · refine WA_skip ?_
          refine WA_seq (x := (fcd Try.f38 [1, 1, 1, 1, 1, 0])) (y := (fcd Try.f38 [1, 1, 1, 1, 1, 1])) ?_
          refine V_regionX Γ Δ [] [0, 1, 2, 3, 4, 5, 6, 7, 8, 9, 13, 18, 27, 35, 43, 44, 45, 48, 49, 50, 61] (evs ?_)
          have hm := ‹mchkE m = 0›
          have hv := ‹validB r = true›
          have hs := ‹r.w ≤ 256 ∧ r.h ≤ 256›
          have hw := hc
          have hsz := cp_sz hs hc.2
          have hz := sz_z hsz.1
          have hz2 := hz
          unfold Z0 at hz2
          have hnb := nn_bd hz
          all_goals (try with_reducible (repeat' (first | apply And.intro | intro _)))
          all_goals (try (first | with_reducible refine wa_id ?_ | exact True.intro | exact blank_fn _ _ hz | omega))
          refine WA_seq (x := (fcd Try.f38 [1, 1, 1, 1, 1, 1, 0])) (y := (fcd Try.f38 [1, 1, 1, 1, 1, 1, 1])) ?_
          refine WA_seq (x := (fcd Try.f38 [1, 1, 1, 1, 1, 1, 0, 0])) (y := (fcd Try.f38 [1, 1, 1, 1, 1, 1, 0, 1])) ?_
          refine V_regionX Γ Δ [] [0, 1, 2, 3, 4, 5, 6, 7, 8, 9, 13, 18, 27, 35, 43, 44, 45, 48, 49, 50, 61] (evs ?_)
          all_goals (try with_reducible (repeat' (first | apply And.intro | intro _)))
          all_goals (try (first | with_reducible refine wa_id ?_ | exact True.intro | omega))
          refine WA_block (c := (fcd Try.f38 [1, 1, 1, 1, 1, 1, 0, 1, 0])) ?_
          refine V_loop (c := (fcd Try.f38 [1, 1, 1, 1, 1, 1, 0, 1, 0, 0])) (α := Nat) [8, 9, 44, 45, 48, 49, 50, 61] [14100, 16100, 16101, 16102, 16103] (fun y => [(44, .dat (.i (y : Int)))]) (fun y => [(14100, some (true, .arr 3 1 ((fil (nn r.w r.h) (gF r.w.toNat (crF' m r)) (y * r.w.toNat)).map iC)))]) (fun y => y ≤ r.h.toNat) (fun y => r.h.toNat - y) 0 [] ?_ (evs ?_) ?_
          · exact Nat.zero_le _
          · (try with_reducible (repeat' (first | apply And.intro | intro _)))
            all_goals (first | exact True.intro | omega | (first | exact fil_0I _ _ | (rw [Nat.zero_mul]; exact fil_0I _ _) | (rw [fil_0 (nn r.w r.h) (gF r.w.toNat (crF' m r))]; simp; done) | rfl))
          · intro y hY
            refine WA_seq (x := (fcd Try.f38 [1, 1, 1, 1, 1, 1, 0, 1, 0, 0, 0])) (y := (fcd Try.f38 [1, 1, 1, 1, 1, 1, 0, 1, 0, 0, 1])) ?_
            refine V_regionX Γ Δ [] [0, 1, 2, 3, 4, 5, 6, 7, 8, 9, 13, 18, 27, 35, 43, 44, 45, 48, 49, 50, 61] (evs ?_)
            all_goals (try with_reducible (repeat' (first | apply And.intro | intro _)))
            all_goals (try (first | with_reducible refine wa_id ?_ | exact True.intro | omega))
            refine WA_seq (x := (fcd Try.f38 [1, 1, 1, 1, 1, 1, 0, 1, 0, 0, 1, 0])) (y := (fcd Try.f38 [1, 1, 1, 1, 1, 1, 0, 1, 0, 0, 1, 1])) ?_
            refine V_cond (evs ?_)
            refine ⟨fun hc => ?_, fun hc => ?_⟩
            · refine WA_skip ?_
              refine WA_seq (x := (fcd Try.f38 [1, 1, 1, 1, 1, 1, 0, 1, 0, 0, 1, 1, 0])) (y := (fcd Try.f38 [1, 1, 1, 1, 1, 1, 0, 1, 0, 0, 1, 1, 1])) ?_
              refine WA_block (c := (fcd Try.f38 [1, 1, 1, 1, 1, 1, 0, 1, 0, 0, 1, 1, 0, 0])) ?_
              refine WA_seq (x := (fcd Try.f38 [1, 1, 1, 1, 1, 1, 0, 1, 0, 0, 1, 1, 0, 0, 0])) (y := (fcd Try.f38 [1, 1, 1, 1, 1, 1, 0, 1, 0, 0, 1, 1, 0, 0, 1])) ?_
              refine V_regionX Γ Δ [] [0, 1, 2, 3, 4, 5, 6, 7, 8, 9, 13, 18, 27, 35, 43, 44, 45, 48, 49, 50, 61] (evs ?_)
              all_goals (try with_reducible (repeat' (first | apply And.intro | intro _)))
              all_goals (try (first | with_reducible refine wa_id ?_ | exact True.intro | omega))
              refine WA_seq (x := (fcd Try.f38 [1, 1, 1, 1, 1, 1, 0, 1, 0, 0, 1, 1, 0, 0, 1, 0])) (y := (fcd Try.f38 [1, 1, 1, 1, 1, 1, 0, 1, 0, 0, 1, 1, 0, 0, 1, 1])) ?_
              refine V_regionX Γ Δ [] [0, 1, 2, 3, 4, 5, 6, 7, 8, 9, 13, 18, 27, 35, 43, 44, 45, 48, 49, 50, 61] (evs ?_)
              all_goals (try with_reducible (repeat' (first | apply And.intro | intro _)))
              all_goals (try (first | with_reducible refine wa_id ?_ | exact True.intro | omega))
              refine WA_block (c := (fcd Try.f38 [1, 1, 1, 1, 1, 1, 0, 1, 0, 0, 1, 1, 0, 0, 1, 1, 0])) ?_
              refine V_loop (c := (fcd Try.f38 [1, 1, 1, 1, 1, 1, 0, 1, 0, 0, 1, 1, 0, 0, 1, 1, 0, 0])) (α := Nat) [9, 49, 50, 61] [14100, 16100, 16101, 16102, 16103] (fun x => [(49, .dat (.i (x : Int)))]) (fun x => [(14100, some (true, .arr 3 1 ((fil (nn r.w r.h) (gF r.w.toNat (crF' m r)) (y * r.w.toNat + x)).map iC)))]) (fun x => x ≤ r.w.toNat) (fun x => r.w.toNat - x) 0 [] ?_ (evs ?_) ?_
              · exact Nat.zero_le _
              · (try with_reducible (repeat' (first | apply And.intro | intro _)))
                all_goals (first | exact True.intro | omega | (first | rfl))
              · intro x hX
                refine WA_seq (x := (fcd Try.f38 [1, 1, 1, 1, 1, 1, 0, 1, 0, 0, 1, 1, 0, 0, 1, 1, 0, 0, 0])) (y := (fcd Try.f38 [1, 1, 1, 1, 1, 1, 0, 1, 0, 0, 1, 1, 0, 0, 1, 1, 0, 0, 1])) ?_
                refine V_regionX Γ Δ [] [0, 1, 2, 3, 4, 5, 6, 7, 8, 9, 13, 18, 27, 35, 43, 44, 45, 48, 49, 50, 61] (evs ?_)
                all_goals (try with_reducible (repeat' (first | apply And.intro | intro _)))
                all_goals (try (first | with_reducible refine wa_id ?_ | exact True.intro | omega))
                refine WA_seq (x := (fcd Try.f38 [1, 1, 1, 1, 1, 1, 0, 1, 0, 0, 1, 1, 0, 0, 1, 1, 0, 0, 1, 0])) (y := (fcd Try.f38 [1, 1, 1, 1, 1, 1, 0, 1, 0, 0, 1, 1, 0, 0, 1, 1, 0, 0, 1, 1])) ?_
                refine V_cond (evs ?_)
                refine ⟨fun hc => ?_, fun hc => ?_⟩
                · refine WA_skip ?_
                  refine WA_seq (x := (fcd Try.f38 [1, 1, 1, 1, 1, 1, 0, 1, 0, 0, 1, 1, 0, 0, 1, 1, 0, 0, 1, 1, 0])) (y := (fcd Try.f38 [1, 1, 1, 1, 1, 1, 0, 1, 0, 0, 1, 1, 0, 0, 1, 1, 0, 0, 1, 1, 1])) ?_
                  refine WA_block (c := (fcd Try.f38 [1, 1, 1, 1, 1, 1, 0, 1, 0, 0, 1, 1, 0, 0, 1, 1, 0, 0, 1, 1, 0, 0])) ?_
                  refine WA_seq (x := (fcd Try.f38 [1, 1, 1, 1, 1, 1, 0, 1, 0, 0, 1, 1, 0, 0, 1, 1, 0, 0, 1, 1, 0, 0, 0])) (y := (fcd Try.f38 [1, 1, 1, 1, 1, 1, 0, 1, 0, 0, 1, 1, 0, 0, 1, 1, 0, 0, 1, 1, 0, 0, 1])) ?_
                  refine V_regionX Γ Δ [] [0, 1, 2, 3, 4, 5, 6, 7, 8, 9, 13, 18, 27, 35, 43, 44, 45, 48, 49, 50, 61] (evs ?_)
                  all_goals (try with_reducible (repeat' (first | apply And.intro | intro _)))
                  all_goals (try (first | with_reducible refine wa_id ?_ | exact True.intro | omega))
                  refine WA_seq (x := (fcd Try.f38 [1, 1, 1, 1, 1, 1, 0, 1, 0, 0, 1, 1, 0, 0, 1, 1, 0, 0, 1, 1, 0, 0, 1, 0])) (y := (fcd Try.f38 [1, 1, 1, 1, 1, 1, 0, 1, 0, 0, 1, 1, 0, 0, 1, 1, 0, 0, 1, 1, 0, 0, 1, 1])) ?_
                  refine V_regionX Γ Δ [] [0, 1, 2, 3, 4, 5, 6, 7, 8, 9, 13, 18, 27, 35, 43, 44, 45, 48, 49, 50, 61] (evs ?_)
                  have hxy : (y : Int) < r.h ∧ (x : Int) < r.w := ⟨‹_›, ‹_›⟩
                  simp (maxSteps := 10000000) (disch := omega) only [w64]
                  all_goals (try with_reducible (repeat' (first | apply And.intro | intro _)))
                  all_goals (try (first | with_reducible refine wa_id ?_ | exact True.intro | exact inside23_fn ⟨_, _, _⟩ _ _ | omega))
                  refine V_cond (evs ?_)
                  refine ⟨fun hc => ?_, fun hc => ?_⟩
                  · refine V_draw Γ [] [0, 1, 2, 3, 4, 5, 6, 7, 8, 9, 13, 18, 27, 35, 43, 44, 45, 48, 49, 50, 61] mixed (by kernel_rfl) (evs ?_)
                    have hi := yxI hz ‹(y : Int) < _› ‹(x : Int) < _›
                    have hin := hc
                    have ha := atI hm hc
                    simp only [yxW hz hxy.1 hxy.2, Int.toNat_natCast]
                    simp (maxSteps := 10000000) (disch := omega) only [w64]
                    simp only [adA]
                    try simp (maxSteps := 10000000) (disch := omega) only [w64]
                    all_goals (try with_reducible (repeat' (first | apply And.intro | intro _)))
                    all_goals (try (first | with_reducible refine wa_id ?_ | exact True.intro | omega))
                    simp only [cp_in hin]
                    refine V_regionX Γ Δ [] [0, 1, 2, 3, 4, 5, 6, 7, 8, 9, 13, 18, 27, 35, 43, 44, 45, 48, 49, 50, 61] (evs ?_)
                    all_goals (try with_reducible (repeat' (first | apply And.intro | intro _)))
                    all_goals (try (first | with_reducible refine wa_id ?_ | exact True.intro | omega))
                    refine V_next [] (x + 1) (evs ?_) ?_ ?_
                    all_goals (try with_reducible (repeat' (first | apply And.intro | intro _)))
                    all_goals (first | exact True.intro | omega | (first | exact w64l (n := 256) (by omega) (by omega) | exact fil_setI (gF_at (F := crF' m r) (show x < r.w.toNat by omega)).symm | (rw [← Nat.add_assoc, ← fil_skip (by rw [gF_at (show x < r.w.toNat by omega)]; exact cp_out hc)]; done)))
                  · refine WA_skip ?_
                    refine V_regionX Γ Δ [] [0, 1, 2, 3, 4, 5, 6, 7, 8, 9, 13, 18, 27, 35, 43, 44, 45, 48, 49, 50, 61] (evs ?_)
                    all_goals (try with_reducible (repeat' (first | apply And.intro | intro _)))
                    all_goals (try (first | with_reducible refine wa_id ?_ | exact True.intro | omega))
                    refine V_next [] (x + 1) (evs ?_) ?_ ?_
                    all_goals (try with_reducible (repeat' (first | apply And.intro | intro _)))
                    all_goals (first | exact True.intro | omega | (first | exact w64l (n := 256) (by omega) (by omega) | exact fil_setI (gF_at (F := crF' m r) (show x < r.w.toNat by omega)).symm | (rw [← Nat.add_assoc, ← fil_skip (by rw [gF_at (show x < r.w.toNat by omega)]; exact cp_out hc)]; done)))
                · refine V_exit (evs ?_)
                  refine V_regionX Γ Δ [] [0, 1, 2, 3, 4, 5, 6, 7, 8, 9, 13, 18, 27, 35, 43, 44, 45, 48, 49, 50, 61] (evs ?_)
                  all_goals (try with_reducible (repeat' (first | apply And.intro | intro _)))
                  all_goals (try (first | with_reducible refine wa_id ?_ | exact True.intro | omega))
                  refine V_next [] (y + 1) (evs ?_) ?_ ?_
                  all_goals (try with_reducible (repeat' (first | apply And.intro | intro _)))
                  all_goals (first | exact True.intro | omega | (first | exact w64l (n := 256) (by omega) (by omega) | (rw [row_e (w := r.w.toNat) (y := y) (x := x) (by omega) (by omega)]; done)))
            · refine V_exit (evs ?_)
              refine WA_seq (x := (fcd Try.f38 [1, 1, 1, 1, 1, 1, 1, 0])) (y := (fcd Try.f38 [1, 1, 1, 1, 1, 1, 1, 1])) ?_
              refine V_regionX Γ Δ [] [0, 1, 2, 3, 4, 5, 6, 7, 8, 9, 13, 18, 27, 35, 43, 44, 45, 48, 49, 50, 61] (evs ?_)
              all_goals (try with_reducible (repeat' (first | apply And.intro | intro _)))
              all_goals (try (first | with_reducible refine wa_id ?_ | exact True.intro | omega))
              refine V_ret (evs ?_)
              first | exact bk0 _ (cp1 hc) | exact bk0 _ (cp2 ‹_› hc) | exact bk0 _ (cp3 ‹_› ‹_› hc) | exact bk0 _ (cp4 ‹_› ‹_› ‹_› hc) | (rw [fall hY hc]; exact bk _ (cp5 hm hv hs hw)) | (rw [yall hY hc]; exact bk _ (cp5 hm hv hs hw))

set_option maxHeartbeats 4000000 in
/-- imageeditor/imageeditorref23.Crop -/
theorem rcrop_fn (m : Mk) (r : Rc) : Eng.Fn Try.prog 39 [mkD m, rcD r] (.tup [.agg [.dat (.i (cropR m r).w), .dat (.i (cropR m r).h), .own 3 1 ((cropR m r).v.map iC)], .dat (.i (cropE m r))]) := by
  refine Eng.Fn.by (fn := Try.f39) 70 [.cell 4 24, .tmp 5] Try.func39 rfl Try.ntmps39 rfl (by simp) fun w0 => ?_
  refine WA_seq (x := (fcd Try.f39 [0])) (y := (fcd Try.f39 [1])) ?_
  refine V_regionX Γ Δ [66] [0, 1, 2, 3, 4, 5, 6, 7, 8, 9, 13, 18, 27, 35, 45, 51] (evs ?_)
  all_goals (try with_reducible (repeat' (first | apply And.intro | intro _)))
  all_goals (try (first | with_reducible refine wa_id ?_ | exact True.intro | omega | (rw [tab_len]; omega)))
  refine WA_seq (x := (fcd Try.f39 [1, 0])) (y := (fcd Try.f39 [1, 1])) ?_
  refine WA_seq (x := (fcd Try.f39 [1, 0, 0])) (y := (fcd Try.f39 [1, 0, 1])) ?_
  refine V_regionX Γ Δ [66] [0, 1, 2, 3, 4, 5, 6, 7, 8, 9, 13, 18, 27, 35, 45, 51] (evs ?_)
  all_goals (try with_reducible (repeat' (first | apply And.intro | intro _)))
  all_goals (try (first | with_reducible refine wa_id ?_ | exact True.intro | exact rmcheck_fn ⟨_, _, _⟩ | omega | (rw [tab_len]; omega)))
  refine WA_seq (x := (fcd Try.f39 [1, 0, 1, 0])) (y := (fcd Try.f39 [1, 0, 1, 1])) ?_
  refine V_regionX Γ Δ [66] [0, 1, 2, 3, 4, 5, 6, 7, 8, 9, 13, 18, 27, 35, 45, 51] (evs ?_)
  all_goals (try with_reducible (repeat' (first | apply And.intro | intro _)))
  all_goals (try (first | with_reducible refine wa_id ?_ | exact True.intro | omega | (rw [tab_len]; omega)))
  refine V_cond (evs ?_)
  refine ⟨fun hc => ?_, fun hc => ?_⟩
  · refine WA_seq (x := (fcd Try.f39 [1, 0, 1, 1, 0, 0])) (y := (fcd Try.f39 [1, 0, 1, 1, 0, 1])) ?_
    refine V_regionX Γ Δ [66] [0, 1, 2, 3, 4, 5, 6, 7, 8, 9, 13, 18, 27, 35, 45, 51] (evs ?_)
    all_goals (try with_reducible (repeat' (first | apply And.intro | intro _)))
    all_goals (try (first | with_reducible refine wa_id ?_ | exact True.intro | omega | (rw [tab_len]; omega)))
    refine V_ret (evs ?_)
    first | exact bk0 _ (cp1 hc) | exact bk0 _ (cp2 ‹_› hc) | exact bk0 _ (cp3 ‹_› ‹_› hc) | exact bk0 _ (cp4 ‹_› ‹_› ‹_› hc) | (rw [fall hY hc]; exact bk _ (cp5 hm hv hs hw)) | (rw [yall hY hc]; exact bk _ (cp5 hm hv hs hw))
  · refine WA_skip ?_
    refine WA_seq (x := (fcd Try.f39 [1, 1, 0])) (y := (fcd Try.f39 [1, 1, 1])) ?_
    refine WA_seq (x := (fcd Try.f39 [1, 1, 0, 0])) (y := (fcd Try.f39 [1, 1, 0, 1])) ?_
    refine V_regionX Γ Δ [66] [0, 1, 2, 3, 4, 5, 6, 7, 8, 9, 13, 18, 27, 35, 45, 51] (evs ?_)
    all_goals (try with_reducible (repeat' (first | apply And.intro | intro _)))
    all_goals (try (first | with_reducible refine wa_id ?_ | exact True.intro | exact rvalid_fn _ | omega | (rw [tab_len]; omega)))
    refine V_cond (evs ?_)
    refine ⟨fun hc => ?_, fun hc => ?_⟩
    · refine WA_seq (x := (fcd Try.f39 [1, 1, 0, 1, 0, 0])) (y := (fcd Try.f39 [1, 1, 0, 1, 0, 1])) ?_
      refine V_regionX Γ Δ [66] [0, 1, 2, 3, 4, 5, 6, 7, 8, 9, 13, 18, 27, 35, 45, 51] (evs ?_)
      all_goals (try with_reducible (repeat' (first | apply And.intro | intro _)))
      all_goals (try (first | with_reducible refine wa_id ?_ | exact True.intro | omega | (rw [tab_len]; omega)))
      refine V_ret (evs ?_)
      first | exact bk0 _ (cp1 hc) | exact bk0 _ (cp2 ‹_› hc) | exact bk0 _ (cp3 ‹_› ‹_› hc) | exact bk0 _ (cp4 ‹_› ‹_› ‹_› hc) | (rw [fall hY hc]; exact bk _ (cp5 hm hv hs hw)) | (rw [yall hY hc]; exact bk _ (cp5 hm hv hs hw))
    · refine WA_skip ?_
      refine WA_seq (x := (fcd Try.f39 [1, 1, 1, 0])) (y := (fcd Try.f39 [1, 1, 1, 1])) ?_
      refine WA_seq (x := (fcd Try.f39 [1, 1, 1, 0, 0])) (y := (fcd Try.f39 [1, 1, 1, 0, 1])) ?_
      refine V_regionX Γ Δ [66] [0, 1, 2, 3, 4, 5, 6, 7, 8, 9, 13, 18, 27, 35, 45, 51] (evs ?_)
      all_goals (try with_reducible (repeat' (first | apply And.intro | intro _)))
      all_goals (try (first | with_reducible refine wa_id ?_ | exact True.intro | omega | (rw [tab_len]; omega)))
      refine V_cond (evs ?_)
      refine ⟨fun hc => ?_, fun hc => ?_⟩
      · refine WA_seq (x := (fcd Try.f39 [1, 1, 1, 0, 1, 0, 0])) (y := (fcd Try.f39 [1, 1, 1, 0, 1, 0, 1])) ?_
        refine V_regionX Γ Δ [66] [0, 1, 2, 3, 4, 5, 6, 7, 8, 9, 13, 18, 27, 35, 45, 51] (evs ?_)
        all_goals (try with_reducible (repeat' (first | apply And.intro | intro _)))
        all_goals (try (first | with_reducible refine wa_id ?_ | exact True.intro | omega | (rw [tab_len]; omega)))
        refine V_ret (evs ?_)
        first | exact bk0 _ (cp1 hc) | exact bk0 _ (cp2 ‹_› hc) | exact bk0 _ (cp3 ‹_› ‹_› hc) | exact bk0 _ (cp4 ‹_› ‹_› ‹_› hc) | (rw [fall hY hc]; exact bk _ (cp5 hm hv hs hw)) | (rw [yall hY hc]; exact bk _ (cp5 hm hv hs hw))
      · refine WA_skip ?_
        refine WA_seq (x := (fcd Try.f39 [1, 1, 1, 1, 0])) (y := (fcd Try.f39 [1, 1, 1, 1, 1])) ?_
        refine WA_seq (x := (fcd Try.f39 [1, 1, 1, 1, 0, 0])) (y := (fcd Try.f39 [1, 1, 1, 1, 0, 1])) ?_
        refine V_regionX Γ Δ [66] [0, 1, 2, 3, 4, 5, 6, 7, 8, 9, 13, 18, 27, 35, 45, 51] (evs ?_)
        all_goals (try with_reducible (repeat' (first | apply And.intro | intro _)))
        all_goals (try (first | with_reducible refine wa_id ?_ | exact True.intro | exact rempty_fn _ | omega | (rw [tab_len]; omega)))
        refine V_cond (evs ?_)
        refine ⟨fun hc => ?_, fun hc => ?_⟩
        · refine WA_seq (x := (fcd Try.f39 [1, 1, 1, 1, 0, 1, 0, 0])) (y := (fcd Try.f39 [1, 1, 1, 1, 0, 1, 0, 1])) ?_
          refine V_regionX Γ Δ [66] [0, 1, 2, 3, 4, 5, 6, 7, 8, 9, 13, 18, 27, 35, 45, 51] (evs ?_)
          all_goals (try with_reducible (repeat' (first | apply And.intro | intro _)))
          all_goals (try (first | with_reducible refine wa_id ?_ | exact True.intro | omega | (rw [tab_len]; omega)))
          refine V_ret (evs ?_)
          first | exact bk0 _ (cp1 hc) | exact bk0 _ (cp2 ‹_› hc) | exact bk0 _ (cp3 ‹_› ‹_› hc) | exact bk0 _ (cp4 ‹_› ‹_› ‹_› hc) | (rw [fall hY hc]; exact bk _ (cp5 hm hv hs hw)) | (rw [yall hY hc]; exact bk _ (cp5 hm hv hs hw))
        · refine WA_skip ?_
          refine WA_seq (x := (fcd Try.f39 [1, 1, 1, 1, 1, 0])) (y := (fcd Try.f39 [1, 1, 1, 1, 1, 1])) ?_
          refine V_regionX Γ Δ [66] [0, 1, 2, 3, 4, 5, 6, 7, 8, 9, 13, 18, 27, 35, 45, 51] (evs ?_)
          have hm := ‹mchkE m = 0›
          have hv := ‹validB r = true›
          have hs := ‹r.w ≤ 256 ∧ r.h ≤ 256›
          have hw := hc
          have hsz := cp_sz hs hc.2
          have hz := sz_z hsz.1
          have hz2 := hz
          unfold Z0 at hz2
          have hnb := nn_bd hz
          all_goals (try with_reducible (repeat' (first | apply And.intro | intro _)))
          all_goals (try (first | with_reducible refine wa_id ?_ | exact True.intro | omega | (rw [tab_len]; omega)))
          refine WA_seq (x := (fcd Try.f39 [1, 1, 1, 1, 1, 1, 0])) (y := (fcd Try.f39 [1, 1, 1, 1, 1, 1, 1])) ?_
          refine WA_seq (x := (fcd Try.f39 [1, 1, 1, 1, 1, 1, 0, 0])) (y := (fcd Try.f39 [1, 1, 1, 1, 1, 1, 0, 1])) ?_
          refine V_regionX Γ Δ [66] [0, 1, 2, 3, 4, 5, 6, 7, 8, 9, 13, 18, 27, 35, 45, 51] (evs ?_)
          all_goals (try with_reducible (repeat' (first | apply And.intro | intro _)))
          all_goals (try (first | with_reducible refine wa_id ?_ | exact True.intro | omega | (rw [tab_len]; omega)))
          refine WA_block (c := (fcd Try.f39 [1, 1, 1, 1, 1, 1, 0, 1, 0])) ?_
          refine V_loop (c := (fcd Try.f39 [1, 1, 1, 1, 1, 1, 0, 1, 0, 0])) (α := Nat) [8, 9, 45, 51] [7, 66, 67, 16500, 16501, 16502, 16503] (fun y => [(8, .dat (.i (y : Int)))]) (fun y => [(20000, some (true, .arr 3 1 ((tab (y * r.w.toNat) (gF r.w.toNat (crF' m r))).map iC))), (7, some (true, .box 24 [.dat (.i r.w), .dat (.i r.h), .vw 20000 0 (y * r.w.toNat) 1]))]) (fun y => y ≤ r.h.toNat) (fun y => r.h.toNat - y) 0 [(20000, none)] ?_ (evs ?_) ?_
          · exact Nat.zero_le _
          · (try with_reducible (repeat' (first | apply And.intro | intro _)))
            all_goals (first | exact True.intro | omega | (first | rfl | (simp [tab]; done)))
          · intro y hY
            refine WA_seq (x := (fcd Try.f39 [1, 1, 1, 1, 1, 1, 0, 1, 0, 0, 0])) (y := (fcd Try.f39 [1, 1, 1, 1, 1, 1, 0, 1, 0, 0, 1])) ?_
            refine WA_seq (x := (fcd Try.f39 [1, 1, 1, 1, 1, 1, 0, 1, 0, 0, 0, 0])) (y := (fcd Try.f39 [1, 1, 1, 1, 1, 1, 0, 1, 0, 0, 0, 1])) ?_
            refine V_regionX Γ Δ [66] [0, 1, 2, 3, 4, 5, 6, 7, 8, 9, 13, 18, 27, 35, 45, 51] (evs ?_)
            all_goals (try with_reducible (repeat' (first | apply And.intro | intro _)))
            all_goals (try (first | with_reducible refine wa_id ?_ | exact True.intro | omega | (rw [tab_len]; omega)))
            refine V_cond (evs ?_)
            refine ⟨fun hc => ?_, fun hc => ?_⟩
            · refine WA_skip ?_
              refine WA_seq (x := (fcd Try.f39 [1, 1, 1, 1, 1, 1, 0, 1, 0, 0, 1, 0])) (y := (fcd Try.f39 [1, 1, 1, 1, 1, 1, 0, 1, 0, 0, 1, 1])) ?_
              refine WA_block (c := (fcd Try.f39 [1, 1, 1, 1, 1, 1, 0, 1, 0, 0, 1, 0, 0])) ?_
              refine WA_seq (x := (fcd Try.f39 [1, 1, 1, 1, 1, 1, 0, 1, 0, 0, 1, 0, 0, 0])) (y := (fcd Try.f39 [1, 1, 1, 1, 1, 1, 0, 1, 0, 0, 1, 0, 0, 1])) ?_
              refine V_regionX Γ Δ [66] [0, 1, 2, 3, 4, 5, 6, 7, 8, 9, 13, 18, 27, 35, 45, 51] (evs ?_)
              all_goals (try with_reducible (repeat' (first | apply And.intro | intro _)))
              all_goals (try (first | with_reducible refine wa_id ?_ | exact True.intro | omega | (rw [tab_len]; omega)))
              refine WA_block (c := (fcd Try.f39 [1, 1, 1, 1, 1, 1, 0, 1, 0, 0, 1, 0, 0, 1, 0])) ?_
              refine V_loop (c := (fcd Try.f39 [1, 1, 1, 1, 1, 1, 0, 1, 0, 0, 1, 0, 0, 1, 0, 0])) (α := Nat) [9, 51] [7, 66, 67, 16500, 16501, 16502, 16503, 20000] (fun x => [(9, .dat (.i (x : Int)))]) (fun x => [(20001, some (true, .arr 3 1 ((tab (y * r.w.toNat + x) (gF r.w.toNat (crF' m r))).map iC))), (7, some (true, .box 24 [.dat (.i r.w), .dat (.i r.h), .vw 20001 0 (y * r.w.toNat + x) 1]))]) (fun x => x ≤ r.w.toNat) (fun x => r.w.toNat - x) 0 [(20001, some 20000)] ?_ (evs ?_) ?_
              · exact Nat.zero_le _
              · (try with_reducible (repeat' (first | apply And.intro | intro _)))
                all_goals (first | exact True.intro | omega | (first | rfl | (simp [tab]; done)))
              · intro x hX
                refine WA_seq (x := (fcd Try.f39 [1, 1, 1, 1, 1, 1, 0, 1, 0, 0, 1, 0, 0, 1, 0, 0, 0])) (y := (fcd Try.f39 [1, 1, 1, 1, 1, 1, 0, 1, 0, 0, 1, 0, 0, 1, 0, 0, 1])) ?_
                refine WA_seq (x := (fcd Try.f39 [1, 1, 1, 1, 1, 1, 0, 1, 0, 0, 1, 0, 0, 1, 0, 0, 0, 0])) (y := (fcd Try.f39 [1, 1, 1, 1, 1, 1, 0, 1, 0, 0, 1, 0, 0, 1, 0, 0, 0, 1])) ?_
                refine V_regionX Γ Δ [66] [0, 1, 2, 3, 4, 5, 6, 7, 8, 9, 13, 18, 27, 35, 45, 51] (evs ?_)
                all_goals (try with_reducible (repeat' (first | apply And.intro | intro _)))
                all_goals (try (first | with_reducible refine wa_id ?_ | exact True.intro | omega | (rw [tab_len]; omega)))
                refine V_cond (evs ?_)
                refine ⟨fun hc => ?_, fun hc => ?_⟩
                · refine WA_skip ?_
                  refine WA_seq (x := (fcd Try.f39 [1, 1, 1, 1, 1, 1, 0, 1, 0, 0, 1, 0, 0, 1, 0, 0, 1, 0])) (y := (fcd Try.f39 [1, 1, 1, 1, 1, 1, 0, 1, 0, 0, 1, 0, 0, 1, 0, 0, 1, 1])) ?_
                  refine WA_block (c := (fcd Try.f39 [1, 1, 1, 1, 1, 1, 0, 1, 0, 0, 1, 0, 0, 1, 0, 0, 1, 0, 0])) ?_
                  refine V_draw Γ [66] [0, 1, 2, 3, 4, 5, 6, 7, 8, 9, 13, 18, 27, 35, 45, 51] mixed (by kernel_rfl) (evs ?_)
                  have hi := yxI hz ‹(y : Int) < _› ‹(x : Int) < _›
                  have ha := ap_b hz ‹(y : Int) < _› ‹(x : Int) < _›
                  have hxy : (y : Int) < r.h ∧ (x : Int) < r.w := ⟨‹_›, ‹_›⟩
                  simp (maxSteps := 10000000) (disch := omega) only [w64]
                  all_goals (try with_reducible (repeat' (first | apply And.intro | intro _)))
                  all_goals (try (first | with_reducible refine wa_id ?_ | exact True.intro | exact pick_fn ⟨_, _, _⟩ _ _ hm | omega | (rw [tab_len]; omega)))
                  refine V_regionX Γ Δ [66] [0, 1, 2, 3, 4, 5, 6, 7, 8, 9, 13, 18, 27, 35, 45, 51] (evs ?_)
                  all_goals (try with_reducible (repeat' (first | apply And.intro | intro _)))
                  all_goals (try (first | with_reducible refine wa_id ?_ | exact True.intro | omega | (rw [tab_len]; omega)))
                  refine V_next [(20001, some 67)] (x + 1) (evs ?_) ?_ ?_
                  all_goals (try with_reducible (repeat' (first | apply And.intro | intro _)))
                  all_goals (first | exact True.intro | omega | (first | exact w64l (n := 256) (by omega) (by omega) | exact tab_app (gF_at (F := crF' m r) (show x < r.w.toNat by omega)).symm))
                · refine V_exit (evs ?_)
                  refine V_regionX Γ Δ [66] [0, 1, 2, 3, 4, 5, 6, 7, 8, 9, 13, 18, 27, 35, 45, 51] (evs ?_)
                  all_goals (try with_reducible (repeat' (first | apply And.intro | intro _)))
                  all_goals (try (first | with_reducible refine wa_id ?_ | exact True.intro | omega | (rw [tab_len]; omega)))
                  refine V_next [(20000, some 20001)] (y + 1) (evs ?_) ?_ ?_
                  all_goals (try with_reducible (repeat' (first | apply And.intro | intro _)))
                  all_goals (first | exact True.intro | omega | (first | exact w64l (n := 256) (by omega) (by omega) | (rw [row_e (w := r.w.toNat) (y := y) (x := x) (by omega) (by omega)]; done)))
            · refine V_exit (evs ?_)
              refine WA_seq (x := (fcd Try.f39 [1, 1, 1, 1, 1, 1, 1, 0])) (y := (fcd Try.f39 [1, 1, 1, 1, 1, 1, 1, 1])) ?_
              refine V_regionX Γ Δ [66] [0, 1, 2, 3, 4, 5, 6, 7, 8, 9, 13, 18, 27, 35, 45, 51] (evs ?_)
              all_goals (try with_reducible (repeat' (first | apply And.intro | intro _)))
              all_goals (try (first | with_reducible refine wa_id ?_ | exact True.intro | omega | (rw [tab_len]; omega)))
              refine V_ret (evs ?_)
              first | exact bk0 _ (cp1 hc) | exact bk0 _ (cp2 ‹_› hc) | exact bk0 _ (cp3 ‹_› ‹_› hc) | exact bk0 _ (cp4 ‹_› ‹_› ‹_› hc) | (rw [fall hY hc]; exact bk _ (cp5 hm hv hs hw)) | (rw [yall hY hc]; exact bk _ (cp5 hm hv hs hw))

end Go.S23

