import Derived.Test.YtppghgoeibelkaaB5
import Derived.Test.YtppghgoeibelkaaB3
import Derived.Test.YtppghgoeibelkaaA1
import Derived.Test.YtppghgoeibelkaaA2
set_option linter.unusedSimpArgs false
set_option linter.unusedVariables false
namespace Go.S23
open Go.RowKit Go.Proofs Go.Eng Go.Rect
set_option maxHeartbeats 2000000 in
/-- imageeditor/mask.Ellipse -/
theorem ell_fn (w h : Int) (r : Rc) : Eng.Fn Try.prog 18 [.i w, .i h, rcD r] (.tup [.agg [.dat (.i (ellR w h r).w), .dat (.i (ellR w h r).h), .own 3 1 ((ellR w h r).v.map iC)], .dat (.i (ellE w h r))]) := by
  refine Eng.Fn.by (fn := Try.f18) 66 [.cell 6 24, .tmp 7] Try.func18 rfl Try.ntmps18 rfl (by simp) fun w0 => ?_
  refine WA_seq (x := (fcd Try.f18 [0])) (y := (fcd Try.f18 [1])) ?_
  refine V_regionX Γ Δ [] [0, 1, 2, 5, 6, 7, 8, 9, 10, 11, 12, 17, 32, 38, 40, 41, 42, 44, 45, 46] (evs ?_)
  all_goals (try with_reducible (repeat' (first | apply And.intro | intro _)))
  all_goals (try (first | with_reducible refine wa_id ?_ | exact True.intro | omega))
  refine WA_seq (x := (fcd Try.f18 [1, 0])) (y := (fcd Try.f18 [1, 1])) ?_
  refine WA_seq (x := (fcd Try.f18 [1, 0, 0])) (y := (fcd Try.f18 [1, 0, 1])) ?_
  refine V_regionX Γ Δ [] [0, 1, 2, 5, 6, 7, 8, 9, 10, 11, 12, 17, 32, 38, 40, 41, 42, 44, 45, 46] (evs ?_)
  all_goals (try with_reducible (repeat' (first | apply And.intro | intro _)))
  all_goals (try (first | with_reducible refine wa_id ?_ | exact True.intro | exact msized_fn _ _ | omega))
  refine WA_seq (x := (fcd Try.f18 [1, 0, 1, 0])) (y := (fcd Try.f18 [1, 0, 1, 1])) ?_
  refine V_regionX Γ Δ [] [0, 1, 2, 5, 6, 7, 8, 9, 10, 11, 12, 17, 32, 38, 40, 41, 42, 44, 45, 46] (evs ?_)
  all_goals (try with_reducible (repeat' (first | apply And.intro | intro _)))
  all_goals (try (first | with_reducible refine wa_id ?_ | exact True.intro | omega))
  refine V_cond (evs ?_)
  refine ⟨fun hc => ?_, fun hc => ?_⟩
  · refine WA_seq (x := (fcd Try.f18 [1, 0, 1, 1, 0, 0])) (y := (fcd Try.f18 [1, 0, 1, 1, 0, 1])) ?_
    refine V_regionX Γ Δ [] [0, 1, 2, 5, 6, 7, 8, 9, 10, 11, 12, 17, 32, 38, 40, 41, 42, 44, 45, 46] (evs ?_)
    all_goals (try with_reducible (repeat' (first | apply And.intro | intro _)))
    all_goals (try (first | with_reducible refine wa_id ?_ | exact True.intro | omega))
    refine V_ret (evs ?_)
    first | exact bk0 _ (el1 hc) | exact bk0 _ (el2 hs hc) | exact bk _ (el4 hs hv hc) | (rw [fall hY hc]; exact bk _ (el3 hs hv))
  · refine WA_skip ?_
    refine WA_seq (x := (fcd Try.f18 [1, 1, 0])) (y := (fcd Try.f18 [1, 1, 1])) ?_
    refine WA_seq (x := (fcd Try.f18 [1, 1, 0, 0])) (y := (fcd Try.f18 [1, 1, 0, 1])) ?_
    refine V_regionX Γ Δ [] [0, 1, 2, 5, 6, 7, 8, 9, 10, 11, 12, 17, 32, 38, 40, 41, 42, 44, 45, 46] (evs ?_)
    have hs := sizedE_0 ‹sizedE w h = 0›
    have hz := sz_z hs
    have hb := nn_bd hz
    have hs2 := hs
    unfold SzOk at hs2
    all_goals (try with_reducible (repeat' (first | apply And.intro | intro _)))
    all_goals (try (first | with_reducible refine wa_id ?_ | exact True.intro | exact valid_fn _ | omega))
    refine V_cond (evs ?_)
    refine ⟨fun hc => ?_, fun hc => ?_⟩
    · refine WA_seq (x := (fcd Try.f18 [1, 1, 0, 1, 0, 0])) (y := (fcd Try.f18 [1, 1, 0, 1, 0, 1])) ?_
      refine V_regionX Γ Δ [] [0, 1, 2, 5, 6, 7, 8, 9, 10, 11, 12, 17, 32, 38, 40, 41, 42, 44, 45, 46] (evs ?_)
      all_goals (try with_reducible (repeat' (first | apply And.intro | intro _)))
      all_goals (try (first | with_reducible refine wa_id ?_ | exact True.intro | omega))
      refine V_ret (evs ?_)
      first | exact bk0 _ (el1 hc) | exact bk0 _ (el2 hs hc) | exact bk _ (el4 hs hv hc) | (rw [fall hY hc]; exact bk _ (el3 hs hv))
    · refine WA_skip ?_
      refine WA_seq (x := (fcd Try.f18 [1, 1, 1, 0])) (y := (fcd Try.f18 [1, 1, 1, 1])) ?_
      refine V_regionX Γ Δ [] [0, 1, 2, 5, 6, 7, 8, 9, 10, 11, 12, 17, 32, 38, 40, 41, 42, 44, 45, 46] (evs ?_)
      have hv := hc
      all_goals (try with_reducible (repeat' (first | apply And.intro | intro _)))
      all_goals (try (first | with_reducible refine wa_id ?_ | exact True.intro | exact blank_fn _ _ hz | omega))
      refine WA_seq (x := (fcd Try.f18 [1, 1, 1, 1, 0])) (y := (fcd Try.f18 [1, 1, 1, 1, 1])) ?_
      refine WA_seq (x := (fcd Try.f18 [1, 1, 1, 1, 0, 0])) (y := (fcd Try.f18 [1, 1, 1, 1, 0, 1])) ?_
      refine V_regionX Γ Δ [] [0, 1, 2, 5, 6, 7, 8, 9, 10, 11, 12, 17, 32, 38, 40, 41, 42, 44, 45, 46] (evs ?_)
      all_goals (try with_reducible (repeat' (first | apply And.intro | intro _)))
      all_goals (try (first | with_reducible refine wa_id ?_ | exact True.intro | exact empty_fn _ | omega))
      refine V_cond (evs ?_)
      refine ⟨fun hc => ?_, fun hc => ?_⟩
      · refine WA_seq (x := (fcd Try.f18 [1, 1, 1, 1, 0, 1, 0, 0])) (y := (fcd Try.f18 [1, 1, 1, 1, 0, 1, 0, 1])) ?_
        refine V_regionX Γ Δ [] [0, 1, 2, 5, 6, 7, 8, 9, 10, 11, 12, 17, 32, 38, 40, 41, 42, 44, 45, 46] (evs ?_)
        all_goals (try with_reducible (repeat' (first | apply And.intro | intro _)))
        all_goals (try (first | with_reducible refine wa_id ?_ | exact True.intro | omega))
        refine V_ret (evs ?_)
        first | exact bk0 _ (el1 hc) | exact bk0 _ (el2 hs hc) | exact bk _ (el4 hs hv hc) | (rw [fall hY hc]; exact bk _ (el3 hs hv))
      · refine WA_skip ?_
        refine WA_seq (x := (fcd Try.f18 [1, 1, 1, 1, 1, 0])) (y := (fcd Try.f18 [1, 1, 1, 1, 1, 1])) ?_
        refine WA_seq (x := (fcd Try.f18 [1, 1, 1, 1, 1, 0, 0])) (y := (fcd Try.f18 [1, 1, 1, 1, 1, 0, 1])) ?_
        refine V_regionX Γ Δ [] [0, 1, 2, 5, 6, 7, 8, 9, 10, 11, 12, 17, 32, 38, 40, 41, 42, 44, 45, 46] (evs ?_)
        have hr := elOk hv hc
        all_goals (try with_reducible (repeat' (first | apply And.intro | intro _)))
        all_goals (try (first | with_reducible refine wa_id ?_ | exact True.intro | omega))
        refine WA_block (c := (fcd Try.f18 [1, 1, 1, 1, 1, 0, 1, 0])) ?_
        refine V_loop (c := (fcd Try.f18 [1, 1, 1, 1, 1, 0, 1, 0, 0])) (α := Nat) [10, 11, 12, 41, 42, 44, 45, 46] [13600, 15100, 15101, 15102, 15103, 16100, 16101, 16102, 16103] (fun y => [(41, .dat (.i (y : Int)))]) (fun y => [(13600, some (true, .arr 3 1 ((fil (nn w h) (gF w.toNat (eF r)) (y * w.toNat)).map iC)))]) (fun y => y ≤ h.toNat) (fun y => h.toNat - y) 0 [] ?_ (evs ?_) ?_
        · exact Nat.zero_le _
        · (try with_reducible (repeat' (first | apply And.intro | intro _)))
          all_goals (first | exact True.intro | omega | (first | exact fil_0I _ _ | (rw [Nat.zero_mul]; exact fil_0I _ _) | (rw [fil_0 (nn w h) (gF w.toNat (eF r))]; simp; done) | rfl))
        · intro y hY
          refine WA_seq (x := (fcd Try.f18 [1, 1, 1, 1, 1, 0, 1, 0, 0, 0])) (y := (fcd Try.f18 [1, 1, 1, 1, 1, 0, 1, 0, 0, 1])) ?_
          refine V_regionX Γ Δ [] [0, 1, 2, 5, 6, 7, 8, 9, 10, 11, 12, 17, 32, 38, 40, 41, 42, 44, 45, 46] (evs ?_)
          all_goals (try with_reducible (repeat' (first | apply And.intro | intro _)))
          all_goals (try (first | with_reducible refine wa_id ?_ | exact True.intro | omega))
          refine WA_seq (x := (fcd Try.f18 [1, 1, 1, 1, 1, 0, 1, 0, 0, 1, 0])) (y := (fcd Try.f18 [1, 1, 1, 1, 1, 0, 1, 0, 0, 1, 1])) ?_
          refine V_cond (evs ?_)
          refine ⟨fun hc => ?_, fun hc => ?_⟩
          · refine WA_skip ?_
            refine WA_seq (x := (fcd Try.f18 [1, 1, 1, 1, 1, 0, 1, 0, 0, 1, 1, 0])) (y := (fcd Try.f18 [1, 1, 1, 1, 1, 0, 1, 0, 0, 1, 1, 1])) ?_
            refine WA_block (c := (fcd Try.f18 [1, 1, 1, 1, 1, 0, 1, 0, 0, 1, 1, 0, 0])) ?_
            refine WA_seq (x := (fcd Try.f18 [1, 1, 1, 1, 1, 0, 1, 0, 0, 1, 1, 0, 0, 0])) (y := (fcd Try.f18 [1, 1, 1, 1, 1, 0, 1, 0, 0, 1, 1, 0, 0, 1])) ?_
            refine V_regionX Γ Δ [] [0, 1, 2, 5, 6, 7, 8, 9, 10, 11, 12, 17, 32, 38, 40, 41, 42, 44, 45, 46] (evs ?_)
            all_goals (try with_reducible (repeat' (first | apply And.intro | intro _)))
            all_goals (try (first | with_reducible refine wa_id ?_ | exact True.intro | omega))
            refine WA_seq (x := (fcd Try.f18 [1, 1, 1, 1, 1, 0, 1, 0, 0, 1, 1, 0, 0, 1, 0])) (y := (fcd Try.f18 [1, 1, 1, 1, 1, 0, 1, 0, 0, 1, 1, 0, 0, 1, 1])) ?_
            refine V_regionX Γ Δ [] [0, 1, 2, 5, 6, 7, 8, 9, 10, 11, 12, 17, 32, 38, 40, 41, 42, 44, 45, 46] (evs ?_)
            all_goals (try with_reducible (repeat' (first | apply And.intro | intro _)))
            all_goals (try (first | with_reducible refine wa_id ?_ | exact True.intro | omega))
            refine WA_block (c := (fcd Try.f18 [1, 1, 1, 1, 1, 0, 1, 0, 0, 1, 1, 0, 0, 1, 1, 0])) ?_
            refine V_loop (c := (fcd Try.f18 [1, 1, 1, 1, 1, 0, 1, 0, 0, 1, 1, 0, 0, 1, 1, 0, 0])) (α := Nat) [11, 12, 45, 46] [13600, 15100, 15101, 15102, 15103, 16100, 16101, 16102, 16103] (fun x => [(45, .dat (.i (x : Int)))]) (fun x => [(13600, some (true, .arr 3 1 ((fil (nn w h) (gF w.toNat (eF r)) (y * w.toNat + x)).map iC)))]) (fun x => x ≤ w.toNat) (fun x => w.toNat - x) 0 [] ?_ (evs ?_) ?_
            · exact Nat.zero_le _
            · (try with_reducible (repeat' (first | apply And.intro | intro _)))
              all_goals (first | exact True.intro | omega | (first | rfl))
            · intro x hX
              refine WA_seq (x := (fcd Try.f18 [1, 1, 1, 1, 1, 0, 1, 0, 0, 1, 1, 0, 0, 1, 1, 0, 0, 0])) (y := (fcd Try.f18 [1, 1, 1, 1, 1, 0, 1, 0, 0, 1, 1, 0, 0, 1, 1, 0, 0, 1])) ?_
              refine V_regionX Γ Δ [] [0, 1, 2, 5, 6, 7, 8, 9, 10, 11, 12, 17, 32, 38, 40, 41, 42, 44, 45, 46] (evs ?_)
              all_goals (try with_reducible (repeat' (first | apply And.intro | intro _)))
              all_goals (try (first | with_reducible refine wa_id ?_ | exact True.intro | omega))
              refine WA_seq (x := (fcd Try.f18 [1, 1, 1, 1, 1, 0, 1, 0, 0, 1, 1, 0, 0, 1, 1, 0, 0, 1, 0])) (y := (fcd Try.f18 [1, 1, 1, 1, 1, 0, 1, 0, 0, 1, 1, 0, 0, 1, 1, 0, 0, 1, 1])) ?_
              refine V_cond (evs ?_)
              refine ⟨fun hc => ?_, fun hc => ?_⟩
              · refine WA_skip ?_
                refine WA_seq (x := (fcd Try.f18 [1, 1, 1, 1, 1, 0, 1, 0, 0, 1, 1, 0, 0, 1, 1, 0, 0, 1, 1, 0])) (y := (fcd Try.f18 [1, 1, 1, 1, 1, 0, 1, 0, 0, 1, 1, 0, 0, 1, 1, 0, 0, 1, 1, 1])) ?_
                refine WA_block (c := (fcd Try.f18 [1, 1, 1, 1, 1, 0, 1, 0, 0, 1, 1, 0, 0, 1, 1, 0, 0, 1, 1, 0, 0])) ?_
                refine WA_seq (x := (fcd Try.f18 [1, 1, 1, 1, 1, 0, 1, 0, 0, 1, 1, 0, 0, 1, 1, 0, 0, 1, 1, 0, 0, 0])) (y := (fcd Try.f18 [1, 1, 1, 1, 1, 0, 1, 0, 0, 1, 1, 0, 0, 1, 1, 0, 0, 1, 1, 0, 0, 1])) ?_
                refine V_regionX Γ Δ [] [0, 1, 2, 5, 6, 7, 8, 9, 10, 11, 12, 17, 32, 38, 40, 41, 42, 44, 45, 46] (evs ?_)
                all_goals (try with_reducible (repeat' (first | apply And.intro | intro _)))
                all_goals (try (first | with_reducible refine wa_id ?_ | exact True.intro | omega))
                refine WA_seq (x := (fcd Try.f18 [1, 1, 1, 1, 1, 0, 1, 0, 0, 1, 1, 0, 0, 1, 1, 0, 0, 1, 1, 0, 0, 1, 0])) (y := (fcd Try.f18 [1, 1, 1, 1, 1, 0, 1, 0, 0, 1, 1, 0, 0, 1, 1, 0, 0, 1, 1, 0, 0, 1, 1])) ?_
                refine V_regionX Γ Δ [] [0, 1, 2, 5, 6, 7, 8, 9, 10, 11, 12, 17, 32, 38, 40, 41, 42, 44, 45, 46] (evs ?_)
                have := ‹(y : Int) < h›
                have := ‹(x : Int) < w›
                all_goals (try with_reducible (repeat' (first | apply And.intro | intro _)))
                all_goals (try (first | with_reducible refine wa_id ?_ | exact True.intro | exact samples_fn ⟨_, _, _, _⟩ _ _ hr (by omega) (by omega) | omega))
                refine V_draw Γ [] [0, 1, 2, 5, 6, 7, 8, 9, 10, 11, 12, 17, 32, 38, 40, 41, 42, 44, 45, 46] mixed (by kernel_rfl) (evs ?_)
                have hk := cnt2_bd (rndG r x y) 16 0 (by omega)
                have hk2 : 0 ≤ sampI r x y ∧ sampI r x y ≤ 256 := hk
                simp only [yxW hz ‹(y : Int) < h› ‹(x : Int) < w›, Int.toNat_natCast]
                simp (maxSteps := 10000000) (disch := omega) only [w64]
                have hi := yxI hz ‹(y : Int) < _› ‹(x : Int) < _›
                all_goals (try with_reducible (repeat' (first | apply And.intro | intro _)))
                all_goals (try (first | with_reducible refine wa_id ?_ | exact True.intro | exact div_fn _ _ (by omega) (by omega) (by omega) (by omega) | omega))
                simp only [eFE hr]
                refine V_regionX Γ Δ [] [0, 1, 2, 5, 6, 7, 8, 9, 10, 11, 12, 17, 32, 38, 40, 41, 42, 44, 45, 46] (evs ?_)
                all_goals (try with_reducible (repeat' (first | apply And.intro | intro _)))
                all_goals (try (first | with_reducible refine wa_id ?_ | exact True.intro | omega))
                refine V_next [] (x + 1) (evs ?_) ?_ ?_
                all_goals (try with_reducible (repeat' (first | apply And.intro | intro _)))
                all_goals (first | exact True.intro | omega | (first | exact w64l (n := 256) (by omega) (by omega) | exact fil_setI (by rw [gF_at (show x < w.toNat by omega)]; done) | exact fil_setI (gF_at (F := eF r) (show x < w.toNat by omega)).symm))
              · refine V_exit (evs ?_)
                refine V_regionX Γ Δ [] [0, 1, 2, 5, 6, 7, 8, 9, 10, 11, 12, 17, 32, 38, 40, 41, 42, 44, 45, 46] (evs ?_)
                all_goals (try with_reducible (repeat' (first | apply And.intro | intro _)))
                all_goals (try (first | with_reducible refine wa_id ?_ | exact True.intro | omega))
                refine V_next [] (y + 1) (evs ?_) ?_ ?_
                all_goals (try with_reducible (repeat' (first | apply And.intro | intro _)))
                all_goals (first | exact True.intro | omega | (first | exact w64l (n := 256) (by omega) (by omega) | (rw [row_e (w := w.toNat) (y := y) (x := x) (by omega) (by omega)]; done)))
          · refine V_exit (evs ?_)
            refine WA_seq (x := (fcd Try.f18 [1, 1, 1, 1, 1, 1, 0])) (y := (fcd Try.f18 [1, 1, 1, 1, 1, 1, 1])) ?_
            refine V_regionX Γ Δ [] [0, 1, 2, 5, 6, 7, 8, 9, 10, 11, 12, 17, 32, 38, 40, 41, 42, 44, 45, 46] (evs ?_)
            all_goals (try with_reducible (repeat' (first | apply And.intro | intro _)))
            all_goals (try (first | with_reducible refine wa_id ?_ | exact True.intro | omega))
            refine V_ret (evs ?_)
            first | exact bk0 _ (el1 hc) | exact bk0 _ (el2 hs hc) | exact bk _ (el4 hs hv hc) | (rw [fall hY hc]; exact bk _ (el3 hs hv))

end Go.S23

