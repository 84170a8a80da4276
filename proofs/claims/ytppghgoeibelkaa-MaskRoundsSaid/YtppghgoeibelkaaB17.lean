import Derived.Test.YtppghgoeibelkaaLE
import Derived.Test.YtppghgoeibelkaaB3
import Derived.Test.YtppghgoeibelkaaA1
set_option linter.unusedSimpArgs false
set_option linter.unusedVariables false
namespace Go.S23
open Go.RowKit Go.Proofs Go.Eng Go.Rect
set_option maxHeartbeats 2000000 in
/-- imageeditor/mask.Box -/
theorem mbox_fn (m : Mk) : Eng.Fn Try.prog 42 [mkD m] (.dat (rcD (mboxR m))) := by
  refine Eng.Fn.by (fn := Try.f42) 66 [.cell 2 26] Try.func42 rfl Try.ntmps42 rfl (by simp) fun w0 => ?_
  refine WA_seq (x := (fcd Try.f42 [0])) (y := (fcd Try.f42 [1])) ?_
  refine V_regionX Γ Δ [] [0, 1, 2, 3, 4, 5, 6, 7, 8, 11, 18, 19, 20, 23, 24, 25, 37, 53] (evs ?_)
  all_goals (try with_reducible (repeat' (first | apply And.intro | intro _)))
  all_goals (try (first | with_reducible refine wa_id ?_ | exact True.intro | omega))
  refine WA_seq (x := (fcd Try.f42 [1, 0])) (y := (fcd Try.f42 [1, 1])) ?_
  refine WA_seq (x := (fcd Try.f42 [1, 0, 0])) (y := (fcd Try.f42 [1, 0, 1])) ?_
  refine V_regionX Γ Δ [] [0, 1, 2, 3, 4, 5, 6, 7, 8, 11, 18, 19, 20, 23, 24, 25, 37, 53] (evs ?_)
  all_goals (try with_reducible (repeat' (first | apply And.intro | intro _)))
  all_goals (try (first | with_reducible refine wa_id ?_ | exact True.intro | exact mcheck_fn ⟨_, _, _⟩ | omega))
  refine V_cond (evs ?_)
  refine ⟨fun hc => ?_, fun hc => ?_⟩
  · refine WA_seq (x := (fcd Try.f42 [1, 0, 1, 0, 0])) (y := (fcd Try.f42 [1, 0, 1, 0, 1])) ?_
    refine V_regionX Γ Δ [] [0, 1, 2, 3, 4, 5, 6, 7, 8, 11, 18, 19, 20, 23, 24, 25, 37, 53] (evs ?_)
    all_goals (try with_reducible (repeat' (first | apply And.intro | intro _)))
    all_goals (try (first | with_reducible refine wa_id ?_ | exact True.intro | omega))
    refine V_ret (evs ?_)
    first | exact fe (r := zR) (bx_1 hc) | exact fe (r := zR) ((bx_z hc).trans (bx_2 hm hY ‹_›)) | exact fe ((bx_n hc).trans (bx_2 hm hY ‹_›))
  · refine WA_skip ?_
    refine WA_seq (x := (fcd Try.f42 [1, 1, 0])) (y := (fcd Try.f42 [1, 1, 1])) ?_
    refine V_draw Γ [] [0, 1, 2, 3, 4, 5, 6, 7, 8, 11, 18, 19, 20, 23, 24, 25, 37, 53] mixed (by kernel_rfl) (evs ?_)
    have hm := ‹mchkE m = 0›
    have hq := mchk0 hm
    have hz := hq.1
    have hz2 := hz
    unfold Z0 at hz2
    have hnb := nn_bd hz
    have hln := hq.2.2.1
    all_goals (try with_reducible (repeat' (first | apply And.intro | intro _)))
    all_goals (try (first | with_reducible refine wa_id ?_ | exact True.intro | omega))
    refine WA_seq (x := (fcd Try.f42 [1, 1, 1, 0])) (y := (fcd Try.f42 [1, 1, 1, 1])) ?_
    refine WA_seq (x := (fcd Try.f42 [1, 1, 1, 0, 0])) (y := (fcd Try.f42 [1, 1, 1, 0, 1])) ?_
    refine V_regionX Γ Δ [] [0, 1, 2, 3, 4, 5, 6, 7, 8, 11, 18, 19, 20, 23, 24, 25, 37, 53] (evs ?_)
    all_goals (try with_reducible (repeat' (first | apply And.intro | intro _)))
    all_goals (try (first | with_reducible refine wa_id ?_ | exact True.intro | omega))
    refine WA_block (c := (fcd Try.f42 [1, 1, 1, 0, 1, 0])) ?_
    refine V_loop (c := (fcd Try.f42 [1, 1, 1, 0, 1, 0, 0])) (α := Nat) [3, 4, 5, 6, 7, 8, 19, 20, 23, 24, 25, 37] [] (fun y => [(19, .dat (.i (y : Int))), (3, .dat (.i (mbK m (y * m.w.toNat)).x0)), (4, .dat (.i (mbK m (y * m.w.toNat)).y0)), (5, .dat (.i (mbK m (y * m.w.toNat)).x1)), (6, .dat (.i (mbK m (y * m.w.toNat)).y1))]) (fun y => []) (fun y => y ≤ m.h.toNat) (fun y => m.h.toNat - y) 0 [] ?_ (evs ?_) ?_
    · exact Nat.zero_le _
    · (try with_reducible (repeat' (first | apply And.intro | intro _)))
      all_goals (first | exact True.intro | omega | (first | (rw [Nat.zero_mul]; rfl) | (simp [mbK, mb0]; done)))
    · intro y hY
      refine WA_seq (x := (fcd Try.f42 [1, 1, 1, 0, 1, 0, 0, 0])) (y := (fcd Try.f42 [1, 1, 1, 0, 1, 0, 0, 1])) ?_
      refine V_regionX Γ Δ [] [0, 1, 2, 3, 4, 5, 6, 7, 8, 11, 18, 19, 20, 23, 24, 25, 37, 53] (evs ?_)
      all_goals (try with_reducible (repeat' (first | apply And.intro | intro _)))
      all_goals (try (first | with_reducible refine wa_id ?_ | exact True.intro | omega))
      refine WA_seq (x := (fcd Try.f42 [1, 1, 1, 0, 1, 0, 0, 1, 0])) (y := (fcd Try.f42 [1, 1, 1, 0, 1, 0, 0, 1, 1])) ?_
      refine V_cond (evs ?_)
      refine ⟨fun hc => ?_, fun hc => ?_⟩
      · refine WA_skip ?_
        refine WA_seq (x := (fcd Try.f42 [1, 1, 1, 0, 1, 0, 0, 1, 1, 0])) (y := (fcd Try.f42 [1, 1, 1, 0, 1, 0, 0, 1, 1, 1])) ?_
        refine WA_block (c := (fcd Try.f42 [1, 1, 1, 0, 1, 0, 0, 1, 1, 0, 0])) ?_
        refine WA_seq (x := (fcd Try.f42 [1, 1, 1, 0, 1, 0, 0, 1, 1, 0, 0, 0])) (y := (fcd Try.f42 [1, 1, 1, 0, 1, 0, 0, 1, 1, 0, 0, 1])) ?_
        refine V_regionX Γ Δ [] [0, 1, 2, 3, 4, 5, 6, 7, 8, 11, 18, 19, 20, 23, 24, 25, 37, 53] (evs ?_)
        all_goals (try with_reducible (repeat' (first | apply And.intro | intro _)))
        all_goals (try (first | with_reducible refine wa_id ?_ | exact True.intro | omega))
        refine WA_seq (x := (fcd Try.f42 [1, 1, 1, 0, 1, 0, 0, 1, 1, 0, 0, 1, 0])) (y := (fcd Try.f42 [1, 1, 1, 0, 1, 0, 0, 1, 1, 0, 0, 1, 1])) ?_
        refine V_regionX Γ Δ [] [0, 1, 2, 3, 4, 5, 6, 7, 8, 11, 18, 19, 20, 23, 24, 25, 37, 53] (evs ?_)
        all_goals (try with_reducible (repeat' (first | apply And.intro | intro _)))
        all_goals (try (first | with_reducible refine wa_id ?_ | exact True.intro | omega))
        refine WA_block (c := (fcd Try.f42 [1, 1, 1, 0, 1, 0, 0, 1, 1, 0, 0, 1, 1, 0])) ?_
        refine V_loop (c := (fcd Try.f42 [1, 1, 1, 0, 1, 0, 0, 1, 1, 0, 0, 1, 1, 0, 0])) (α := Nat) [3, 4, 5, 6, 8, 24, 25, 37] [] (fun x => [(24, .dat (.i (x : Int))), (3, .dat (.i (mbK m (y * m.w.toNat + x)).x0)), (4, .dat (.i (mbK m (y * m.w.toNat + x)).y0)), (5, .dat (.i (mbK m (y * m.w.toNat + x)).x1)), (6, .dat (.i (mbK m (y * m.w.toNat + x)).y1))]) (fun x => []) (fun x => x ≤ m.w.toNat) (fun x => m.w.toNat - x) 0 [] ?_ (evs ?_) ?_
        · exact Nat.zero_le _
        · (try with_reducible (repeat' (first | apply And.intro | intro _)))
          all_goals (first | exact True.intro | omega | (first | rfl))
        · intro x hX
          refine WA_seq (x := (fcd Try.f42 [1, 1, 1, 0, 1, 0, 0, 1, 1, 0, 0, 1, 1, 0, 0, 0])) (y := (fcd Try.f42 [1, 1, 1, 0, 1, 0, 0, 1, 1, 0, 0, 1, 1, 0, 0, 1])) ?_
          refine V_regionX Γ Δ [] [0, 1, 2, 3, 4, 5, 6, 7, 8, 11, 18, 19, 20, 23, 24, 25, 37, 53] (evs ?_)
          all_goals (try with_reducible (repeat' (first | apply And.intro | intro _)))
          all_goals (try (first | with_reducible refine wa_id ?_ | exact True.intro | omega))
          refine WA_seq (x := (fcd Try.f42 [1, 1, 1, 0, 1, 0, 0, 1, 1, 0, 0, 1, 1, 0, 0, 1, 0])) (y := (fcd Try.f42 [1, 1, 1, 0, 1, 0, 0, 1, 1, 0, 0, 1, 1, 0, 0, 1, 1])) ?_
          refine V_cond (evs ?_)
          refine ⟨fun hc => ?_, fun hc => ?_⟩
          · refine WA_skip ?_
            refine WA_seq (x := (fcd Try.f42 [1, 1, 1, 0, 1, 0, 0, 1, 1, 0, 0, 1, 1, 0, 0, 1, 1, 0])) (y := (fcd Try.f42 [1, 1, 1, 0, 1, 0, 0, 1, 1, 0, 0, 1, 1, 0, 0, 1, 1, 1])) ?_
            refine WA_block (c := (fcd Try.f42 [1, 1, 1, 0, 1, 0, 0, 1, 1, 0, 0, 1, 1, 0, 0, 1, 1, 0, 0])) ?_
            refine WA_seq (x := (fcd Try.f42 [1, 1, 1, 0, 1, 0, 0, 1, 1, 0, 0, 1, 1, 0, 0, 1, 1, 0, 0, 0])) (y := (fcd Try.f42 [1, 1, 1, 0, 1, 0, 0, 1, 1, 0, 0, 1, 1, 0, 0, 1, 1, 0, 0, 1])) ?_
            refine V_regionX Γ Δ [] [0, 1, 2, 3, 4, 5, 6, 7, 8, 11, 18, 19, 20, 23, 24, 25, 37, 53] (evs ?_)
            all_goals (try with_reducible (repeat' (first | apply And.intro | intro _)))
            all_goals (try (first | with_reducible refine wa_id ?_ | exact True.intro | omega))
            refine WA_seq (x := (fcd Try.f42 [1, 1, 1, 0, 1, 0, 0, 1, 1, 0, 0, 1, 1, 0, 0, 1, 1, 0, 0, 1, 0])) (y := (fcd Try.f42 [1, 1, 1, 0, 1, 0, 0, 1, 1, 0, 0, 1, 1, 0, 0, 1, 1, 0, 0, 1, 1])) ?_
            refine V_regionX Γ Δ [] [0, 1, 2, 3, 4, 5, 6, 7, 8, 11, 18, 19, 20, 23, 24, 25, 37, 53] (evs ?_)
            have hxy : (y : Int) < m.h ∧ (x : Int) < m.w := ⟨‹_›, ‹_›⟩
            have hi := yxI hz ‹(y : Int) < _› ‹(x : Int) < _›
            simp only [yxW hz hxy.1 hxy.2, Int.toNat_natCast]
            all_goals (try with_reducible (repeat' (first | apply And.intro | intro _)))
            all_goals (try (first | with_reducible refine wa_id ?_ | exact True.intro | omega))
            refine V_cond (evs ?_)
            refine ⟨fun hc => ?_, fun hc => ?_⟩
            · refine WA_seq (x := (fcd Try.f42 [1, 1, 1, 0, 1, 0, 0, 1, 1, 0, 0, 1, 1, 0, 0, 1, 1, 0, 0, 1, 1, 0, 0])) (y := (fcd Try.f42 [1, 1, 1, 0, 1, 0, 0, 1, 1, 0, 0, 1, 1, 0, 0, 1, 1, 0, 0, 1, 1, 0, 1])) ?_
              refine V_regionX Γ Δ [] [0, 1, 2, 3, 4, 5, 6, 7, 8, 11, 18, 19, 20, 23, 24, 25, 37, 53] (evs ?_)
              all_goals (try with_reducible (repeat' (first | apply And.intro | intro _)))
              all_goals (try (first | with_reducible refine wa_id ?_ | exact True.intro | omega))
              refine V_regionX Γ Δ [] [0, 1, 2, 3, 4, 5, 6, 7, 8, 11, 18, 19, 20, 23, 24, 25, 37, 53] (evs ?_)
              all_goals (try with_reducible (repeat' (first | apply And.intro | intro _)))
              all_goals (try (first | with_reducible refine wa_id ?_ | exact True.intro | omega))
              refine V_regionX Γ Δ [] [0, 1, 2, 3, 4, 5, 6, 7, 8, 11, 18, 19, 20, 23, 24, 25, 37, 53] (evs ?_)
              all_goals (try with_reducible (repeat' (first | apply And.intro | intro _)))
              all_goals (try (first | with_reducible refine wa_id ?_ | exact True.intro | omega))
              refine V_next [] (x + 1) (evs ?_) ?_ ?_
              all_goals (try with_reducible (repeat' (first | apply And.intro | intro _)))
              all_goals (first | exact True.intro | omega | (first | exact w64l (n := 256) (by omega) (by omega) | (rw [mb_on (by omega) hc]; done) | (rw [mb_off hc]; done)))
            · refine WA_skip ?_
              refine V_regionX Γ Δ [] [0, 1, 2, 3, 4, 5, 6, 7, 8, 11, 18, 19, 20, 23, 24, 25, 37, 53] (evs ?_)
              all_goals (try with_reducible (repeat' (first | apply And.intro | intro _)))
              all_goals (try (first | with_reducible refine wa_id ?_ | exact True.intro | omega))
              refine V_next [] (x + 1) (evs ?_) ?_ ?_
              all_goals (try with_reducible (repeat' (first | apply And.intro | intro _)))
              all_goals (first | exact True.intro | omega | (first | exact w64l (n := 256) (by omega) (by omega) | (rw [mb_on (by omega) hc]; done) | (rw [mb_off hc]; done)))
          · refine V_exit (evs ?_)
            refine V_regionX Γ Δ [] [0, 1, 2, 3, 4, 5, 6, 7, 8, 11, 18, 19, 20, 23, 24, 25, 37, 53] (evs ?_)
            all_goals (try with_reducible (repeat' (first | apply And.intro | intro _)))
            all_goals (try (first | with_reducible refine wa_id ?_ | exact True.intro | omega))
            refine V_next [] (y + 1) (evs ?_) ?_ ?_
            all_goals (try with_reducible (repeat' (first | apply And.intro | intro _)))
            all_goals (first | exact True.intro | omega | (first | exact w64l (n := 256) (by omega) (by omega) | (rw [row_e (w := m.w.toNat) (y := y) (x := x) (by omega) (by omega)]; done)))
      · refine V_exit (evs ?_)
        refine WA_seq (x := (fcd Try.f42 [1, 1, 1, 1, 0])) (y := (fcd Try.f42 [1, 1, 1, 1, 1])) ?_
        refine WA_seq (x := (fcd Try.f42 [1, 1, 1, 1, 0, 0])) (y := (fcd Try.f42 [1, 1, 1, 1, 0, 1])) ?_
        refine V_regionX Γ Δ [] [0, 1, 2, 3, 4, 5, 6, 7, 8, 11, 18, 19, 20, 23, 24, 25, 37, 53] (evs ?_)
        have ho := mb_ok (m := m) ⟨hz2.1, hz2.2.2.1⟩ (y * m.w.toNat) (by have := mul_le_nn hY; omega)
        have hob := mb_bd ho ⟨hz2.1, hz2.2.1, hz2.2.2.1, hz2.2.2.2⟩
        all_goals (try with_reducible (repeat' (first | apply And.intro | intro _)))
        all_goals (try (first | with_reducible refine wa_id ?_ | exact True.intro | omega))
        refine V_cond (evs ?_)
        refine ⟨fun hc => ?_, fun hc => ?_⟩
        · refine WA_seq (x := (fcd Try.f42 [1, 1, 1, 1, 0, 1, 0, 0])) (y := (fcd Try.f42 [1, 1, 1, 1, 0, 1, 0, 1])) ?_
          refine V_regionX Γ Δ [] [0, 1, 2, 3, 4, 5, 6, 7, 8, 11, 18, 19, 20, 23, 24, 25, 37, 53] (evs ?_)
          all_goals (try with_reducible (repeat' (first | apply And.intro | intro _)))
          all_goals (try (first | with_reducible refine wa_id ?_ | exact True.intro | omega))
          refine V_ret (evs ?_)
          first | exact fe (r := zR) (bx_1 hc) | exact fe (r := zR) ((bx_z hc).trans (bx_2 hm hY ‹_›)) | exact fe ((bx_n hc).trans (bx_2 hm hY ‹_›))
        · refine WA_skip ?_
          refine WA_seq (x := (fcd Try.f42 [1, 1, 1, 1, 1, 0])) (y := (fcd Try.f42 [1, 1, 1, 1, 1, 1])) ?_
          refine V_regionX Γ Δ [] [0, 1, 2, 3, 4, 5, 6, 7, 8, 11, 18, 19, 20, 23, 24, 25, 37, 53] (evs ?_)
          simp (maxSteps := 10000000) (disch := omega) only [w64]
          all_goals (try with_reducible (repeat' (first | apply And.intro | intro _)))
          all_goals (try (first | with_reducible refine wa_id ?_ | exact True.intro | omega))
          refine V_ret (evs ?_)
          first | exact fe (r := zR) (bx_1 hc) | exact fe (r := zR) ((bx_z hc).trans (bx_2 hm hY ‹_›)) | exact fe ((bx_n hc).trans (bx_2 hm hY ‹_›))

set_option maxHeartbeats 4000000 in
/-- imageeditor/imageeditorref23.Box -/
theorem rmbox_fn (m : Mk) : Eng.Fn Try.prog 43 [mkD m] (.dat (rcD (mboxR m))) := by
  refine Eng.Fn.by (fn := Try.f43) 34 [.cell 2 26] Try.func43 rfl Try.ntmps43 rfl (by simp) fun w0 => ?_
  refine WA_seq (x := (fcd Try.f43 [0])) (y := (fcd Try.f43 [1])) ?_
  refine V_regionX Γ Δ [] [0, 1, 2, 3, 4, 5, 8, 14, 20, 27] (evs ?_)
  all_goals (try with_reducible (repeat' (first | apply And.intro | intro _)))
  all_goals (try (first | with_reducible refine wa_id ?_ | exact True.intro | omega))
  refine WA_seq (x := (fcd Try.f43 [1, 0])) (y := (fcd Try.f43 [1, 1])) ?_
  refine WA_seq (x := (fcd Try.f43 [1, 0, 0])) (y := (fcd Try.f43 [1, 0, 1])) ?_
  refine V_regionX Γ Δ [] [0, 1, 2, 3, 4, 5, 8, 14, 20, 27] (evs ?_)
  all_goals (try with_reducible (repeat' (first | apply And.intro | intro _)))
  all_goals (try (first | with_reducible refine wa_id ?_ | exact True.intro | exact rmcheck_fn ⟨_, _, _⟩ | omega))
  refine V_cond (evs ?_)
  refine ⟨fun hc => ?_, fun hc => ?_⟩
  · refine WA_seq (x := (fcd Try.f43 [1, 0, 1, 0, 0])) (y := (fcd Try.f43 [1, 0, 1, 0, 1])) ?_
    refine V_regionX Γ Δ [] [0, 1, 2, 3, 4, 5, 8, 14, 20, 27] (evs ?_)
    all_goals (try with_reducible (repeat' (first | apply And.intro | intro _)))
    all_goals (try (first | with_reducible refine wa_id ?_ | exact True.intro | omega))
    refine V_ret (evs ?_)
    first | exact fe (r := zR) (bx_1 hc) | exact fe (bx_2 hm hY ‹_›)
  · refine WA_skip ?_
    refine WA_seq (x := (fcd Try.f43 [1, 1, 0])) (y := (fcd Try.f43 [1, 1, 1])) ?_
    refine V_regionX Γ Δ [] [0, 1, 2, 3, 4, 5, 8, 14, 20, 27] (evs ?_)
    have hm := ‹mchkE m = 0›
    have hq := mchk0 hm
    have hz := hq.1
    have hz2 := hz
    unfold Z0 at hz2
    have hnb := nn_bd hz
    have hln := hq.2.2.1
    all_goals (try with_reducible (repeat' (first | apply And.intro | intro _)))
    all_goals (try (first | with_reducible refine wa_id ?_ | exact True.intro | omega))
    refine WA_seq (x := (fcd Try.f43 [1, 1, 1, 0])) (y := (fcd Try.f43 [1, 1, 1, 1])) ?_
    refine WA_seq (x := (fcd Try.f43 [1, 1, 1, 0, 0])) (y := (fcd Try.f43 [1, 1, 1, 0, 1])) ?_
    refine V_regionX Γ Δ [] [0, 1, 2, 3, 4, 5, 8, 14, 20, 27] (evs ?_)
    all_goals (try with_reducible (repeat' (first | apply And.intro | intro _)))
    all_goals (try (first | with_reducible refine wa_id ?_ | exact True.intro | omega))
    refine WA_block (c := (fcd Try.f43 [1, 1, 1, 0, 1, 0])) ?_
    refine V_loop (c := (fcd Try.f43 [1, 1, 1, 0, 1, 0, 0])) (α := Nat) [4, 5, 14, 20, 27] [3, 12600, 12601, 12602, 12603, 13200, 13201, 13202, 13203] (fun y => [(4, .dat (.i (y : Int)))]) (fun y => [(3, some (true, .box 26 [.dat (.i (b4R (mbK m (y * m.w.toNat))).x), .dat (.i (b4R (mbK m (y * m.w.toNat))).y), .dat (.i (b4R (mbK m (y * m.w.toNat))).w), .dat (.i (b4R (mbK m (y * m.w.toNat))).h)]))]) (fun y => y ≤ m.h.toNat) (fun y => m.h.toNat - y) 0 [] ?_ (evs ?_) ?_
    · exact Nat.zero_le _
    · (try with_reducible (repeat' (first | apply And.intro | intro _)))
      all_goals (first | exact True.intro | omega | (first | rfl | (rw [Nat.zero_mul]; rfl)))
    · intro y hY
      refine WA_seq (x := (fcd Try.f43 [1, 1, 1, 0, 1, 0, 0, 0])) (y := (fcd Try.f43 [1, 1, 1, 0, 1, 0, 0, 1])) ?_
      refine WA_seq (x := (fcd Try.f43 [1, 1, 1, 0, 1, 0, 0, 0, 0])) (y := (fcd Try.f43 [1, 1, 1, 0, 1, 0, 0, 0, 1])) ?_
      refine V_regionX Γ Δ [] [0, 1, 2, 3, 4, 5, 8, 14, 20, 27] (evs ?_)
      all_goals (try with_reducible (repeat' (first | apply And.intro | intro _)))
      all_goals (try (first | with_reducible refine wa_id ?_ | exact True.intro | omega))
      refine V_cond (evs ?_)
      refine ⟨fun hc => ?_, fun hc => ?_⟩
      · refine WA_skip ?_
        refine WA_seq (x := (fcd Try.f43 [1, 1, 1, 0, 1, 0, 0, 1, 0])) (y := (fcd Try.f43 [1, 1, 1, 0, 1, 0, 0, 1, 1])) ?_
        refine WA_block (c := (fcd Try.f43 [1, 1, 1, 0, 1, 0, 0, 1, 0, 0])) ?_
        refine WA_seq (x := (fcd Try.f43 [1, 1, 1, 0, 1, 0, 0, 1, 0, 0, 0])) (y := (fcd Try.f43 [1, 1, 1, 0, 1, 0, 0, 1, 0, 0, 1])) ?_
        refine V_regionX Γ Δ [] [0, 1, 2, 3, 4, 5, 8, 14, 20, 27] (evs ?_)
        all_goals (try with_reducible (repeat' (first | apply And.intro | intro _)))
        all_goals (try (first | with_reducible refine wa_id ?_ | exact True.intro | omega))
        refine WA_block (c := (fcd Try.f43 [1, 1, 1, 0, 1, 0, 0, 1, 0, 0, 1, 0])) ?_
        refine V_loop (c := (fcd Try.f43 [1, 1, 1, 0, 1, 0, 0, 1, 0, 0, 1, 0, 0])) (α := Nat) [5, 20, 27] [3, 12600, 12601, 12602, 12603, 13200, 13201, 13202, 13203] (fun x => [(5, .dat (.i (x : Int)))]) (fun x => [(3, some (true, .box 26 [.dat (.i (b4R (mbK m (y * m.w.toNat + x))).x), .dat (.i (b4R (mbK m (y * m.w.toNat + x))).y), .dat (.i (b4R (mbK m (y * m.w.toNat + x))).w), .dat (.i (b4R (mbK m (y * m.w.toNat + x))).h)]))]) (fun x => x ≤ m.w.toNat) (fun x => m.w.toNat - x) 0 [] ?_ (evs ?_) ?_
        · exact Nat.zero_le _
        · (try with_reducible (repeat' (first | apply And.intro | intro _)))
          all_goals (first | exact True.intro | omega | (first | rfl))
        · intro x hX
          refine WA_seq (x := (fcd Try.f43 [1, 1, 1, 0, 1, 0, 0, 1, 0, 0, 1, 0, 0, 0])) (y := (fcd Try.f43 [1, 1, 1, 0, 1, 0, 0, 1, 0, 0, 1, 0, 0, 1])) ?_
          refine WA_seq (x := (fcd Try.f43 [1, 1, 1, 0, 1, 0, 0, 1, 0, 0, 1, 0, 0, 0, 0])) (y := (fcd Try.f43 [1, 1, 1, 0, 1, 0, 0, 1, 0, 0, 1, 0, 0, 0, 1])) ?_
          refine V_regionX Γ Δ [] [0, 1, 2, 3, 4, 5, 8, 14, 20, 27] (evs ?_)
          all_goals (try with_reducible (repeat' (first | apply And.intro | intro _)))
          all_goals (try (first | with_reducible refine wa_id ?_ | exact True.intro | omega))
          refine V_cond (evs ?_)
          refine ⟨fun hc => ?_, fun hc => ?_⟩
          · refine WA_skip ?_
            refine WA_seq (x := (fcd Try.f43 [1, 1, 1, 0, 1, 0, 0, 1, 0, 0, 1, 0, 0, 1, 0])) (y := (fcd Try.f43 [1, 1, 1, 0, 1, 0, 0, 1, 0, 0, 1, 0, 0, 1, 1])) ?_
            refine WA_block (c := (fcd Try.f43 [1, 1, 1, 0, 1, 0, 0, 1, 0, 0, 1, 0, 0, 1, 0, 0])) ?_
            refine WA_seq (x := (fcd Try.f43 [1, 1, 1, 0, 1, 0, 0, 1, 0, 0, 1, 0, 0, 1, 0, 0, 0])) (y := (fcd Try.f43 [1, 1, 1, 0, 1, 0, 0, 1, 0, 0, 1, 0, 0, 1, 0, 0, 1])) ?_
            refine V_regionX Γ Δ [] [0, 1, 2, 3, 4, 5, 8, 14, 20, 27] (evs ?_)
            have hxy : (y : Int) < m.h ∧ (x : Int) < m.w := ⟨‹_›, ‹_›⟩
            have hi := yxI hz ‹(y : Int) < _› ‹(x : Int) < _›
            have hpk := pk_at hm hxy.1 hxy.2
            all_goals (try with_reducible (repeat' (first | apply And.intro | intro _)))
            all_goals (try (first | with_reducible refine wa_id ?_ | exact True.intro | exact pick_fn ⟨_, _, _⟩ _ _ hm | omega))
            try simp only [hpk]
            refine V_cond (evs ?_)
            refine ⟨fun hc => ?_, fun hc => ?_⟩
            · refine V_regionX Γ Δ [] [0, 1, 2, 3, 4, 5, 8, 14, 20, 27] (evs ?_)
              have ho := mb_ok (m := m) ⟨hz2.1, hz2.2.2.1⟩ (y * m.w.toNat + x) (by omega)
              have hj := mb_join (x := x) (y := y) hz ho (by omega) (by omega)
              all_goals (try with_reducible (repeat' (first | apply And.intro | intro _)))
              all_goals (try (first | with_reducible refine wa_id ?_ | exact True.intro | exact rjoin_fn ⟨_, _, _, _⟩ ⟨_, _, _, _⟩ | omega))
              refine V_regionX Γ Δ [] [0, 1, 2, 3, 4, 5, 8, 14, 20, 27] (evs ?_)
              all_goals (try with_reducible (repeat' (first | apply And.intro | intro _)))
              all_goals (try (first | with_reducible refine wa_id ?_ | exact True.intro | omega))
              refine V_next [] (x + 1) (evs ?_) ?_ ?_
              all_goals (try with_reducible (repeat' (first | apply And.intro | intro _)))
              all_goals (first | exact True.intro | omega | (first | exact w64l (n := 256) (by omega) (by omega) | (rw [mb_on (by omega) hc, hj]; done) | (rw [mb_off hc]; done)))
            · refine WA_skip ?_
              refine V_regionX Γ Δ [] [0, 1, 2, 3, 4, 5, 8, 14, 20, 27] (evs ?_)
              all_goals (try with_reducible (repeat' (first | apply And.intro | intro _)))
              all_goals (try (first | with_reducible refine wa_id ?_ | exact True.intro | omega))
              refine V_next [] (x + 1) (evs ?_) ?_ ?_
              all_goals (try with_reducible (repeat' (first | apply And.intro | intro _)))
              all_goals (first | exact True.intro | omega | (first | exact w64l (n := 256) (by omega) (by omega) | (rw [mb_on (by omega) hc, hj]; done) | (rw [mb_off hc]; done)))
          · refine V_exit (evs ?_)
            refine V_regionX Γ Δ [] [0, 1, 2, 3, 4, 5, 8, 14, 20, 27] (evs ?_)
            all_goals (try with_reducible (repeat' (first | apply And.intro | intro _)))
            all_goals (try (first | with_reducible refine wa_id ?_ | exact True.intro | omega))
            refine V_next [] (y + 1) (evs ?_) ?_ ?_
            all_goals (try with_reducible (repeat' (first | apply And.intro | intro _)))
            all_goals (first | exact True.intro | omega | (first | exact w64l (n := 256) (by omega) (by omega) | (rw [row_e (w := m.w.toNat) (y := y) (x := x) (by omega) (by omega)]; done)))
      · refine V_exit (evs ?_)
        refine WA_seq (x := (fcd Try.f43 [1, 1, 1, 1, 0])) (y := (fcd Try.f43 [1, 1, 1, 1, 1])) ?_
        refine V_regionX Γ Δ [] [0, 1, 2, 3, 4, 5, 8, 14, 20, 27] (evs ?_)
        all_goals (try with_reducible (repeat' (first | apply And.intro | intro _)))
        all_goals (try (first | with_reducible refine wa_id ?_ | exact True.intro | omega))
        refine V_ret (evs ?_)
        first | exact fe (r := zR) (bx_1 hc) | exact fe (bx_2 hm hY ‹_›)

end Go.S23

