import Derived.Test.YtppghgoeibelkaaB11
import Derived.Test.YtppghgoeibelkaaB2
import Derived.Test.YtppghgoeibelkaaA2
set_option linter.unusedSimpArgs false
set_option linter.unusedVariables false
namespace Go.S23
open Go.RowKit Go.Proofs Go.Eng Go.Rect
set_option maxHeartbeats 8000000 in
set_option maxRecDepth 100000 in
/-- imageeditor/mask.Feather -/
theorem fea_fn (m : Mk) (r : Int) : Eng.Fn Try.prog 24 [mkD m, .i r] (.tup [.agg [.dat (.i (feaR m r).w), .dat (.i (feaR m r).h), .own 3 1 ((feaR m r).v.map iC)], .dat (.i (feaE m r))]) := by
  refine Eng.Fn.by (fn := Try.f24) 116 [.cell 4 24, .tmp 5] Try.func24 rfl Try.ntmps24 rfl (by simp) fun w0 => ?_
  refine WA_seq (x := (fcd Try.f24 [0])) (y := (fcd Try.f24 [1])) ?_
  refine V_regionX Γ Δ [32] [0, 1, 2, 4, 5, 6, 7, 8, 9, 10, 11, 12, 13, 14, 15, 16, 20, 28, 39, 40, 41, 44, 45, 46, 48, 49, 50, 51, 68, 69, 70, 71] (evs ?_)
  all_goals (try with_reducible (repeat' (first | apply And.intro | intro _)))
  all_goals (try (first | with_reducible refine wa_id ?_ | exact True.intro | omega | exact sh_b hR))
  refine WA_seq (x := (fcd Try.f24 [1, 0])) (y := (fcd Try.f24 [1, 1])) ?_
  refine WA_seq (x := (fcd Try.f24 [1, 0, 0])) (y := (fcd Try.f24 [1, 0, 1])) ?_
  refine V_regionX Γ Δ [32] [0, 1, 2, 4, 5, 6, 7, 8, 9, 10, 11, 12, 13, 14, 15, 16, 20, 28, 39, 40, 41, 44, 45, 46, 48, 49, 50, 51, 68, 69, 70, 71] (evs ?_)
  all_goals (try with_reducible (repeat' (first | apply And.intro | intro _)))
  all_goals (try (first | with_reducible refine wa_id ?_ | exact True.intro | exact mcheck_fn ⟨_, _, _⟩ | omega | exact sh_b hR))
  refine WA_seq (x := (fcd Try.f24 [1, 0, 1, 0])) (y := (fcd Try.f24 [1, 0, 1, 1])) ?_
  refine V_regionX Γ Δ [32] [0, 1, 2, 4, 5, 6, 7, 8, 9, 10, 11, 12, 13, 14, 15, 16, 20, 28, 39, 40, 41, 44, 45, 46, 48, 49, 50, 51, 68, 69, 70, 71] (evs ?_)
  all_goals (try with_reducible (repeat' (first | apply And.intro | intro _)))
  all_goals (try (first | with_reducible refine wa_id ?_ | exact True.intro | omega | exact sh_b hR))
  refine V_cond (evs ?_)
  refine ⟨fun hc => ?_, fun hc => ?_⟩
  · refine WA_seq (x := (fcd Try.f24 [1, 0, 1, 1, 0, 0])) (y := (fcd Try.f24 [1, 0, 1, 1, 0, 1])) ?_
    refine V_regionX Γ Δ [32] [0, 1, 2, 4, 5, 6, 7, 8, 9, 10, 11, 12, 13, 14, 15, 16, 20, 28, 39, 40, 41, 44, 45, 46, 48, 49, 50, 51, 68, 69, 70, 71] (evs ?_)
    all_goals (try with_reducible (repeat' (first | apply And.intro | intro _)))
    all_goals (try (first | with_reducible refine wa_id ?_ | exact True.intro | omega | exact sh_b hR))
    refine V_ret (evs ?_)
    first | exact bk0 _ (fe1 hc) | exact bk0 _ (fe2 ‹_› hc) | (rw [fall hY hc]; exact bk _ (fe3 hm hR)) | (rw [yall hY hc]; exact bk _ (fe3 hm hR))
  · refine WA_skip ?_
    refine WA_seq (x := (fcd Try.f24 [1, 1, 0])) (y := (fcd Try.f24 [1, 1, 1])) ?_
    refine WA_seq (x := (fcd Try.f24 [1, 1, 0, 0])) (y := (fcd Try.f24 [1, 1, 0, 1])) ?_
    refine V_regionX Γ Δ [32] [0, 1, 2, 4, 5, 6, 7, 8, 9, 10, 11, 12, 13, 14, 15, 16, 20, 28, 39, 40, 41, 44, 45, 46, 48, 49, 50, 51, 68, 69, 70, 71] (evs ?_)
    all_goals (try with_reducible (repeat' (first | apply And.intro | intro _)))
    all_goals (try (first | with_reducible refine wa_id ?_ | exact True.intro | omega | exact sh_b hR))
    refine V_cond (evs ?_)
    refine ⟨fun hc => ?_, fun hc => ?_⟩
    · refine WA_seq (x := (fcd Try.f24 [1, 1, 0, 1, 0, 0])) (y := (fcd Try.f24 [1, 1, 0, 1, 0, 1])) ?_
      refine V_regionX Γ Δ [32] [0, 1, 2, 4, 5, 6, 7, 8, 9, 10, 11, 12, 13, 14, 15, 16, 20, 28, 39, 40, 41, 44, 45, 46, 48, 49, 50, 51, 68, 69, 70, 71] (evs ?_)
      all_goals (try with_reducible (repeat' (first | apply And.intro | intro _)))
      all_goals (try (first | with_reducible refine wa_id ?_ | exact True.intro | omega | exact sh_b hR))
      refine V_ret (evs ?_)
      first | exact bk0 _ (fe1 hc) | exact bk0 _ (fe2 ‹_› hc) | (rw [fall hY hc]; exact bk _ (fe3 hm hR)) | (rw [yall hY hc]; exact bk _ (fe3 hm hR))
    · refine WA_skip ?_
      refine WA_seq (x := (fcd Try.f24 [1, 1, 1, 0])) (y := (fcd Try.f24 [1, 1, 1, 1])) ?_
      refine V_regionX Γ Δ [32] [0, 1, 2, 4, 5, 6, 7, 8, 9, 10, 11, 12, 13, 14, 15, 16, 20, 28, 39, 40, 41, 44, 45, 46, 48, 49, 50, 51, 68, 69, 70, 71] (evs ?_)
      have hm := ‹mchkE m = 0›
      have hq := mchk0 hm
      have hz := hq.1
      have hz2 := hz
      unfold Z0 at hz2
      have hnb := nn_bd hz
      have hln := hq.2.2.1
      have hr := hc
      obtain ⟨R, rfl⟩ : ∃ R : Nat, r = (R : Int) := ⟨r.toNat, by omega⟩
      have hR : R ≤ 7 := by omega
      simp (maxSteps := 10000000) (disch := omega) only [w64]
      simp only [t2R]
      all_goals (try with_reducible (repeat' (first | apply And.intro | intro _)))
      all_goals (try (first | with_reducible refine wa_id ?_ | exact True.intro | exact bin_fn _ (by omega) | omega | exact sh_b hR))
      refine WA_seq (x := (fcd Try.f24 [1, 1, 1, 1, 0])) (y := (fcd Try.f24 [1, 1, 1, 1, 1])) ?_
      refine V_regionX Γ Δ [32] [0, 1, 2, 4, 5, 6, 7, 8, 9, 10, 11, 12, 13, 14, 15, 16, 20, 28, 39, 40, 41, 44, 45, 46, 48, 49, 50, 51, 68, 69, 70, 71] (evs ?_)
      all_goals (try with_reducible (repeat' (first | apply And.intro | intro _)))
      all_goals (try (first | with_reducible refine wa_id ?_ | exact True.intro | exact blank_fn _ _ hz | omega | exact sh_b hR))
      refine WA_seq (x := (fcd Try.f24 [1, 1, 1, 1, 1, 0])) (y := (fcd Try.f24 [1, 1, 1, 1, 1, 1])) ?_
      refine WA_seq (x := (fcd Try.f24 [1, 1, 1, 1, 1, 0, 0])) (y := (fcd Try.f24 [1, 1, 1, 1, 1, 0, 1])) ?_
      refine V_regionX Γ Δ [32] [0, 1, 2, 4, 5, 6, 7, 8, 9, 10, 11, 12, 13, 14, 15, 16, 20, 28, 39, 40, 41, 44, 45, 46, 48, 49, 50, 51, 68, 69, 70, 71] (evs ?_)
      all_goals (try with_reducible (repeat' (first | apply And.intro | intro _)))
      all_goals (try (first | with_reducible refine wa_id ?_ | exact True.intro | omega | exact sh_b hR))
      refine WA_block (c := (fcd Try.f24 [1, 1, 1, 1, 1, 0, 1, 0])) ?_
      refine V_loop (c := (fcd Try.f24 [1, 1, 1, 1, 1, 0, 1, 0, 0])) (α := Nat) [9, 10, 11, 12, 13, 14, 15, 16, 40, 41, 44, 45, 46, 48, 49, 50, 51, 68, 69, 70, 71] [13700, 21100, 21101, 21102, 21103] (fun y => [(40, .dat (.i (y : Int)))]) (fun y => [(13700, some (true, .arr 3 1 ((fil (nn m.w m.h) (gF m.w.toNat (fF m (R : Int))) (y * m.w.toNat)).map iC)))]) (fun y => y ≤ m.h.toNat) (fun y => m.h.toNat - y) 0 [] ?_ (evs ?_) ?_
      · exact Nat.zero_le _
      · (try with_reducible (repeat' (first | apply And.intro | intro _)))
        all_goals (first | exact True.intro | omega | (first | exact fil_0I _ _ | (rw [Nat.zero_mul]; exact fil_0I _ _) | (rw [fil_0 (nn m.w m.h) (gF m.w.toNat (fF m (R : Int)))]; simp; done) | rfl))
      · intro y hY
        refine WA_seq (x := (fcd Try.f24 [1, 1, 1, 1, 1, 0, 1, 0, 0, 0])) (y := (fcd Try.f24 [1, 1, 1, 1, 1, 0, 1, 0, 0, 1])) ?_
        refine V_regionX Γ Δ [32] [0, 1, 2, 4, 5, 6, 7, 8, 9, 10, 11, 12, 13, 14, 15, 16, 20, 28, 39, 40, 41, 44, 45, 46, 48, 49, 50, 51, 68, 69, 70, 71] (evs ?_)
        all_goals (try with_reducible (repeat' (first | apply And.intro | intro _)))
        all_goals (try (first | with_reducible refine wa_id ?_ | exact True.intro | omega | exact sh_b hR))
        refine WA_seq (x := (fcd Try.f24 [1, 1, 1, 1, 1, 0, 1, 0, 0, 1, 0])) (y := (fcd Try.f24 [1, 1, 1, 1, 1, 0, 1, 0, 0, 1, 1])) ?_
        refine V_cond (evs ?_)
        refine ⟨fun hc => ?_, fun hc => ?_⟩
        · refine WA_skip ?_
          refine WA_seq (x := (fcd Try.f24 [1, 1, 1, 1, 1, 0, 1, 0, 0, 1, 1, 0])) (y := (fcd Try.f24 [1, 1, 1, 1, 1, 0, 1, 0, 0, 1, 1, 1])) ?_
          refine WA_block (c := (fcd Try.f24 [1, 1, 1, 1, 1, 0, 1, 0, 0, 1, 1, 0, 0])) ?_
          refine WA_seq (x := (fcd Try.f24 [1, 1, 1, 1, 1, 0, 1, 0, 0, 1, 1, 0, 0, 0])) (y := (fcd Try.f24 [1, 1, 1, 1, 1, 0, 1, 0, 0, 1, 1, 0, 0, 1])) ?_
          refine V_regionX Γ Δ [32] [0, 1, 2, 4, 5, 6, 7, 8, 9, 10, 11, 12, 13, 14, 15, 16, 20, 28, 39, 40, 41, 44, 45, 46, 48, 49, 50, 51, 68, 69, 70, 71] (evs ?_)
          all_goals (try with_reducible (repeat' (first | apply And.intro | intro _)))
          all_goals (try (first | with_reducible refine wa_id ?_ | exact True.intro | omega | exact sh_b hR))
          refine WA_seq (x := (fcd Try.f24 [1, 1, 1, 1, 1, 0, 1, 0, 0, 1, 1, 0, 0, 1, 0])) (y := (fcd Try.f24 [1, 1, 1, 1, 1, 0, 1, 0, 0, 1, 1, 0, 0, 1, 1])) ?_
          refine V_regionX Γ Δ [32] [0, 1, 2, 4, 5, 6, 7, 8, 9, 10, 11, 12, 13, 14, 15, 16, 20, 28, 39, 40, 41, 44, 45, 46, 48, 49, 50, 51, 68, 69, 70, 71] (evs ?_)
          all_goals (try with_reducible (repeat' (first | apply And.intro | intro _)))
          all_goals (try (first | with_reducible refine wa_id ?_ | exact True.intro | omega | exact sh_b hR))
          refine WA_block (c := (fcd Try.f24 [1, 1, 1, 1, 1, 0, 1, 0, 0, 1, 1, 0, 0, 1, 1, 0])) ?_
          refine V_loop (c := (fcd Try.f24 [1, 1, 1, 1, 1, 0, 1, 0, 0, 1, 1, 0, 0, 1, 1, 0, 0])) (α := Nat) [10, 11, 12, 13, 14, 15, 16, 45, 46, 48, 49, 50, 51, 68, 69, 70, 71] [13700, 21100, 21101, 21102, 21103] (fun x => [(45, .dat (.i (x : Int)))]) (fun x => [(13700, some (true, .arr 3 1 ((fil (nn m.w m.h) (gF m.w.toNat (fF m (R : Int))) (y * m.w.toNat + x)).map iC)))]) (fun x => x ≤ m.w.toNat) (fun x => m.w.toNat - x) 0 [] ?_ (evs ?_) ?_
          · exact Nat.zero_le _
          · (try with_reducible (repeat' (first | apply And.intro | intro _)))
            all_goals (first | exact True.intro | omega | (first | rfl))
          · intro x hX
            refine WA_seq (x := (fcd Try.f24 [1, 1, 1, 1, 1, 0, 1, 0, 0, 1, 1, 0, 0, 1, 1, 0, 0, 0])) (y := (fcd Try.f24 [1, 1, 1, 1, 1, 0, 1, 0, 0, 1, 1, 0, 0, 1, 1, 0, 0, 1])) ?_
            refine V_regionX Γ Δ [32] [0, 1, 2, 4, 5, 6, 7, 8, 9, 10, 11, 12, 13, 14, 15, 16, 20, 28, 39, 40, 41, 44, 45, 46, 48, 49, 50, 51, 68, 69, 70, 71] (evs ?_)
            all_goals (try with_reducible (repeat' (first | apply And.intro | intro _)))
            all_goals (try (first | with_reducible refine wa_id ?_ | exact True.intro | omega | exact sh_b hR))
            refine WA_seq (x := (fcd Try.f24 [1, 1, 1, 1, 1, 0, 1, 0, 0, 1, 1, 0, 0, 1, 1, 0, 0, 1, 0])) (y := (fcd Try.f24 [1, 1, 1, 1, 1, 0, 1, 0, 0, 1, 1, 0, 0, 1, 1, 0, 0, 1, 1])) ?_
            refine V_cond (evs ?_)
            refine ⟨fun hc => ?_, fun hc => ?_⟩
            · refine WA_skip ?_
              refine WA_seq (x := (fcd Try.f24 [1, 1, 1, 1, 1, 0, 1, 0, 0, 1, 1, 0, 0, 1, 1, 0, 0, 1, 1, 0])) (y := (fcd Try.f24 [1, 1, 1, 1, 1, 0, 1, 0, 0, 1, 1, 0, 0, 1, 1, 0, 0, 1, 1, 1])) ?_
              refine WA_block (c := (fcd Try.f24 [1, 1, 1, 1, 1, 0, 1, 0, 0, 1, 1, 0, 0, 1, 1, 0, 0, 1, 1, 0, 0])) ?_
              refine WA_seq (x := (fcd Try.f24 [1, 1, 1, 1, 1, 0, 1, 0, 0, 1, 1, 0, 0, 1, 1, 0, 0, 1, 1, 0, 0, 0])) (y := (fcd Try.f24 [1, 1, 1, 1, 1, 0, 1, 0, 0, 1, 1, 0, 0, 1, 1, 0, 0, 1, 1, 0, 0, 1])) ?_
              refine V_regionX Γ Δ [32] [0, 1, 2, 4, 5, 6, 7, 8, 9, 10, 11, 12, 13, 14, 15, 16, 20, 28, 39, 40, 41, 44, 45, 46, 48, 49, 50, 51, 68, 69, 70, 71] (evs ?_)
              all_goals (try with_reducible (repeat' (first | apply And.intro | intro _)))
              all_goals (try (first | with_reducible refine wa_id ?_ | exact True.intro | omega | exact sh_b hR))
              refine WA_seq (x := (fcd Try.f24 [1, 1, 1, 1, 1, 0, 1, 0, 0, 1, 1, 0, 0, 1, 1, 0, 0, 1, 1, 0, 0, 1, 0])) (y := (fcd Try.f24 [1, 1, 1, 1, 1, 0, 1, 0, 0, 1, 1, 0, 0, 1, 1, 0, 0, 1, 1, 0, 0, 1, 1])) ?_
              refine V_regionX Γ Δ [32] [0, 1, 2, 4, 5, 6, 7, 8, 9, 10, 11, 12, 13, 14, 15, 16, 20, 28, 39, 40, 41, 44, 45, 46, 48, 49, 50, 51, 68, 69, 70, 71] (evs ?_)
              all_goals (try with_reducible (repeat' (first | apply And.intro | intro _)))
              all_goals (try (first | with_reducible refine wa_id ?_ | exact True.intro | omega | exact sh_b hR))
              refine WA_seq (x := (fcd Try.f24 [1, 1, 1, 1, 1, 0, 1, 0, 0, 1, 1, 0, 0, 1, 1, 0, 0, 1, 1, 0, 0, 1, 1, 0])) (y := (fcd Try.f24 [1, 1, 1, 1, 1, 0, 1, 0, 0, 1, 1, 0, 0, 1, 1, 0, 0, 1, 1, 0, 0, 1, 1, 1])) ?_
              refine WA_seq (x := (fcd Try.f24 [1, 1, 1, 1, 1, 0, 1, 0, 0, 1, 1, 0, 0, 1, 1, 0, 0, 1, 1, 0, 0, 1, 1, 0, 0])) (y := (fcd Try.f24 [1, 1, 1, 1, 1, 0, 1, 0, 0, 1, 1, 0, 0, 1, 1, 0, 0, 1, 1, 0, 0, 1, 1, 0, 1])) ?_
              refine V_regionX Γ Δ [32] [0, 1, 2, 4, 5, 6, 7, 8, 9, 10, 11, 12, 13, 14, 15, 16, 20, 28, 39, 40, 41, 44, 45, 46, 48, 49, 50, 51, 68, 69, 70, 71] (evs ?_)
              all_goals (try with_reducible (repeat' (first | apply And.intro | intro _)))
              all_goals (try (first | with_reducible refine wa_id ?_ | exact True.intro | omega | exact sh_b hR))
              refine WA_block (c := (fcd Try.f24 [1, 1, 1, 1, 1, 0, 1, 0, 0, 1, 1, 0, 0, 1, 1, 0, 0, 1, 1, 0, 0, 1, 1, 0, 1, 0])) ?_
              refine V_loop (c := (fcd Try.f24 [1, 1, 1, 1, 1, 0, 1, 0, 0, 1, 1, 0, 0, 1, 1, 0, 0, 1, 1, 0, 0, 1, 1, 0, 1, 0, 0])) (α := Nat) [11, 12, 13, 14, 15, 16, 50, 51, 68, 69, 70, 71] [] (fun j => [(50, .dat (.i (j : Int))), (11, .dat (.i (sum2 (ftT m R (x : Int) (y : Int)) (2 * R + 1) j 0)))]) (fun j => []) (fun j => j ≤ 2 * R + 1) (fun j => 2 * R + 1 - j) 0 [] ?_ (evs ?_) ?_
              · exact Nat.zero_le _
              · (try with_reducible (repeat' (first | apply And.intro | intro _)))
                all_goals (first | exact True.intro | omega | (first | rfl | (simp [sum2]; done)))
              · intro j hJ
                refine WA_seq (x := (fcd Try.f24 [1, 1, 1, 1, 1, 0, 1, 0, 0, 1, 1, 0, 0, 1, 1, 0, 0, 1, 1, 0, 0, 1, 1, 0, 1, 0, 0, 0])) (y := (fcd Try.f24 [1, 1, 1, 1, 1, 0, 1, 0, 0, 1, 1, 0, 0, 1, 1, 0, 0, 1, 1, 0, 0, 1, 1, 0, 1, 0, 0, 1])) ?_
                refine V_regionX Γ Δ [32] [0, 1, 2, 4, 5, 6, 7, 8, 9, 10, 11, 12, 13, 14, 15, 16, 20, 28, 39, 40, 41, 44, 45, 46, 48, 49, 50, 51, 68, 69, 70, 71] (evs ?_)
                all_goals (try with_reducible (repeat' (first | apply And.intro | intro _)))
                all_goals (try (first | with_reducible refine wa_id ?_ | exact True.intro | omega | exact sh_b hR))
                refine WA_seq (x := (fcd Try.f24 [1, 1, 1, 1, 1, 0, 1, 0, 0, 1, 1, 0, 0, 1, 1, 0, 0, 1, 1, 0, 0, 1, 1, 0, 1, 0, 0, 1, 0])) (y := (fcd Try.f24 [1, 1, 1, 1, 1, 0, 1, 0, 0, 1, 1, 0, 0, 1, 1, 0, 0, 1, 1, 0, 0, 1, 1, 0, 1, 0, 0, 1, 1])) ?_
                refine V_cond (evs ?_)
                refine ⟨fun hc => ?_, fun hc => ?_⟩
                · refine WA_skip ?_
                  refine WA_seq (x := (fcd Try.f24 [1, 1, 1, 1, 1, 0, 1, 0, 0, 1, 1, 0, 0, 1, 1, 0, 0, 1, 1, 0, 0, 1, 1, 0, 1, 0, 0, 1, 1, 0])) (y := (fcd Try.f24 [1, 1, 1, 1, 1, 0, 1, 0, 0, 1, 1, 0, 0, 1, 1, 0, 0, 1, 1, 0, 0, 1, 1, 0, 1, 0, 0, 1, 1, 1])) ?_
                  refine WA_block (c := (fcd Try.f24 [1, 1, 1, 1, 1, 0, 1, 0, 0, 1, 1, 0, 0, 1, 1, 0, 0, 1, 1, 0, 0, 1, 1, 0, 1, 0, 0, 1, 1, 0, 0])) ?_
                  refine WA_seq (x := (fcd Try.f24 [1, 1, 1, 1, 1, 0, 1, 0, 0, 1, 1, 0, 0, 1, 1, 0, 0, 1, 1, 0, 0, 1, 1, 0, 1, 0, 0, 1, 1, 0, 0, 0])) (y := (fcd Try.f24 [1, 1, 1, 1, 1, 0, 1, 0, 0, 1, 1, 0, 0, 1, 1, 0, 0, 1, 1, 0, 0, 1, 1, 0, 1, 0, 0, 1, 1, 0, 0, 1])) ?_
                  refine V_regionX Γ Δ [32] [0, 1, 2, 4, 5, 6, 7, 8, 9, 10, 11, 12, 13, 14, 15, 16, 20, 28, 39, 40, 41, 44, 45, 46, 48, 49, 50, 51, 68, 69, 70, 71] (evs ?_)
                  simp only [tgI ‹(j : Int) < _›]
                  all_goals (try with_reducible (repeat' (first | apply And.intro | intro _)))
                  all_goals (try (first | with_reducible refine wa_id ?_ | exact True.intro | omega | exact sh_b hR))
                  refine WA_seq (x := (fcd Try.f24 [1, 1, 1, 1, 1, 0, 1, 0, 0, 1, 1, 0, 0, 1, 1, 0, 0, 1, 1, 0, 0, 1, 1, 0, 1, 0, 0, 1, 1, 0, 0, 1, 0])) (y := (fcd Try.f24 [1, 1, 1, 1, 1, 0, 1, 0, 0, 1, 1, 0, 0, 1, 1, 0, 0, 1, 1, 0, 0, 1, 1, 0, 1, 0, 0, 1, 1, 0, 0, 1, 1])) ?_
                  refine V_regionX Γ Δ [32] [0, 1, 2, 4, 5, 6, 7, 8, 9, 10, 11, 12, 13, 14, 15, 16, 20, 28, 39, 40, 41, 44, 45, 46, 48, 49, 50, 51, 68, 69, 70, 71] (evs ?_)
                  have hxy : (y : Int) < m.h ∧ (x : Int) < m.w := ⟨‹_›, ‹_›⟩
                  simp (maxSteps := 10000000) (disch := omega) only [w64]
                  have hcl := cl_b hm (show 0 < m.w by omega) 0 ((y : Int) + j - R)
                  simp (maxSteps := 10000000) (disch := omega) only [w64]
                  all_goals (try with_reducible (repeat' (first | apply And.intro | intro _)))
                  all_goals (try (first | with_reducible refine wa_id ?_ | exact True.intro | omega | exact sh_b hR))
                  refine WA_seq (x := (fcd Try.f24 [1, 1, 1, 1, 1, 0, 1, 0, 0, 1, 1, 0, 0, 1, 1, 0, 0, 1, 1, 0, 0, 1, 1, 0, 1, 0, 0, 1, 1, 0, 0, 1, 1, 0])) (y := (fcd Try.f24 [1, 1, 1, 1, 1, 0, 1, 0, 0, 1, 1, 0, 0, 1, 1, 0, 0, 1, 1, 0, 0, 1, 1, 0, 1, 0, 0, 1, 1, 0, 0, 1, 1, 1])) ?_
                  refine V_regionX Γ Δ [32] [0, 1, 2, 4, 5, 6, 7, 8, 9, 10, 11, 12, 13, 14, 15, 16, 20, 28, 39, 40, 41, 44, 45, 46, 48, 49, 50, 51, 68, 69, 70, 71] (evs ?_)
                  all_goals (try with_reducible (repeat' (first | apply And.intro | intro _)))
                  all_goals (try (first | with_reducible refine wa_id ?_ | exact True.intro | omega | exact sh_b hR))
                  refine WA_block (c := (fcd Try.f24 [1, 1, 1, 1, 1, 0, 1, 0, 0, 1, 1, 0, 0, 1, 1, 0, 0, 1, 1, 0, 0, 1, 1, 0, 1, 0, 0, 1, 1, 0, 0, 1, 1, 1, 0])) ?_
                  refine V_loop (c := (fcd Try.f24 [1, 1, 1, 1, 1, 0, 1, 0, 0, 1, 1, 0, 0, 1, 1, 0, 0, 1, 1, 0, 0, 1, 1, 0, 1, 0, 0, 1, 1, 0, 0, 1, 1, 1, 0, 0])) (α := Nat) [11, 15, 16, 70, 71] [] (fun i => [(70, .dat (.i (i : Int))), (11, .dat (.i (sum2 (ftT m R (x : Int) (y : Int)) (2 * R + 1) j i)))]) (fun i => []) (fun i => i ≤ 2 * R + 1) (fun i => 2 * R + 1 - i) 0 [] ?_ (evs ?_) ?_
                  · exact Nat.zero_le _
                  · (try with_reducible (repeat' (first | apply And.intro | intro _)))
                    all_goals (first | exact True.intro | omega | (first | rfl))
                  · intro i hI
                    refine WA_seq (x := (fcd Try.f24 [1, 1, 1, 1, 1, 0, 1, 0, 0, 1, 1, 0, 0, 1, 1, 0, 0, 1, 1, 0, 0, 1, 1, 0, 1, 0, 0, 1, 1, 0, 0, 1, 1, 1, 0, 0, 0])) (y := (fcd Try.f24 [1, 1, 1, 1, 1, 0, 1, 0, 0, 1, 1, 0, 0, 1, 1, 0, 0, 1, 1, 0, 0, 1, 1, 0, 1, 0, 0, 1, 1, 0, 0, 1, 1, 1, 0, 0, 1])) ?_
                    refine V_regionX Γ Δ [32] [0, 1, 2, 4, 5, 6, 7, 8, 9, 10, 11, 12, 13, 14, 15, 16, 20, 28, 39, 40, 41, 44, 45, 46, 48, 49, 50, 51, 68, 69, 70, 71] (evs ?_)
                    all_goals (try with_reducible (repeat' (first | apply And.intro | intro _)))
                    all_goals (try (first | with_reducible refine wa_id ?_ | exact True.intro | omega | exact sh_b hR))
                    refine WA_seq (x := (fcd Try.f24 [1, 1, 1, 1, 1, 0, 1, 0, 0, 1, 1, 0, 0, 1, 1, 0, 0, 1, 1, 0, 0, 1, 1, 0, 1, 0, 0, 1, 1, 0, 0, 1, 1, 1, 0, 0, 1, 0])) (y := (fcd Try.f24 [1, 1, 1, 1, 1, 0, 1, 0, 0, 1, 1, 0, 0, 1, 1, 0, 0, 1, 1, 0, 0, 1, 1, 0, 1, 0, 0, 1, 1, 0, 0, 1, 1, 1, 0, 0, 1, 1])) ?_
                    refine V_cond (evs ?_)
                    refine ⟨fun hc => ?_, fun hc => ?_⟩
                    · refine WA_skip ?_
                      refine WA_seq (x := (fcd Try.f24 [1, 1, 1, 1, 1, 0, 1, 0, 0, 1, 1, 0, 0, 1, 1, 0, 0, 1, 1, 0, 0, 1, 1, 0, 1, 0, 0, 1, 1, 0, 0, 1, 1, 1, 0, 0, 1, 1, 0])) (y := (fcd Try.f24 [1, 1, 1, 1, 1, 0, 1, 0, 0, 1, 1, 0, 0, 1, 1, 0, 0, 1, 1, 0, 0, 1, 1, 0, 1, 0, 0, 1, 1, 0, 0, 1, 1, 1, 0, 0, 1, 1, 1])) ?_
                      refine WA_block (c := (fcd Try.f24 [1, 1, 1, 1, 1, 0, 1, 0, 0, 1, 1, 0, 0, 1, 1, 0, 0, 1, 1, 0, 0, 1, 1, 0, 1, 0, 0, 1, 1, 0, 0, 1, 1, 1, 0, 0, 1, 1, 0, 0])) ?_
                      refine WA_seq (x := (fcd Try.f24 [1, 1, 1, 1, 1, 0, 1, 0, 0, 1, 1, 0, 0, 1, 1, 0, 0, 1, 1, 0, 0, 1, 1, 0, 1, 0, 0, 1, 1, 0, 0, 1, 1, 1, 0, 0, 1, 1, 0, 0, 0])) (y := (fcd Try.f24 [1, 1, 1, 1, 1, 0, 1, 0, 0, 1, 1, 0, 0, 1, 1, 0, 0, 1, 1, 0, 0, 1, 1, 0, 1, 0, 0, 1, 1, 0, 0, 1, 1, 1, 0, 0, 1, 1, 0, 0, 1])) ?_
                      refine V_regionX Γ Δ [32] [0, 1, 2, 4, 5, 6, 7, 8, 9, 10, 11, 12, 13, 14, 15, 16, 20, 28, 39, 40, 41, 44, 45, 46, 48, 49, 50, 51, 68, 69, 70, 71] (evs ?_)
                      simp only [tgI ‹(i : Int) < _›]
                      all_goals (try with_reducible (repeat' (first | apply And.intro | intro _)))
                      all_goals (try (first | with_reducible refine wa_id ?_ | exact True.intro | omega | exact sh_b hR))
                      refine V_regionX Γ Δ [32] [0, 1, 2, 4, 5, 6, 7, 8, 9, 10, 11, 12, 13, 14, 15, 16, 20, 28, 39, 40, 41, 44, 45, 46, 48, 49, 50, 51, 68, 69, 70, 71] (evs ?_)
                      have hcl := cl_b hm (show 0 < m.w by omega) ((x : Int) + i - R) ((y : Int) + j - R)
                      have b1 := pq_bd (pas_bd (k := 2 * R) (by omega) i) (pas_bd (k := 2 * R) (by omega) j)
                      have b2 := clamp_bd hm ((x : Int) + i - R) ((y : Int) + j - R)
                      have b3 := pqv_bd b1 b2
                      have b4 := ft_sum hm hR x y (j := j) (i := i) (by omega) (by omega)
                      simp (maxSteps := 10000000) (disch := omega) only [w64]
                      simp only [clampE]
                      simp (maxSteps := 10000000) (disch := omega) only [w64]
                      all_goals (try with_reducible (repeat' (first | apply And.intro | intro _)))
                      all_goals (try (first | with_reducible refine wa_id ?_ | exact True.intro | omega | exact sh_b hR))
                      refine V_regionX Γ Δ [32] [0, 1, 2, 4, 5, 6, 7, 8, 9, 10, 11, 12, 13, 14, 15, 16, 20, 28, 39, 40, 41, 44, 45, 46, 48, 49, 50, 51, 68, 69, 70, 71] (evs ?_)
                      all_goals (try with_reducible (repeat' (first | apply And.intro | intro _)))
                      all_goals (try (first | with_reducible refine wa_id ?_ | exact True.intro | omega | exact sh_b hR))
                      refine V_next [] (i + 1) (evs ?_) ?_ ?_
                      all_goals (try with_reducible (repeat' (first | apply And.intro | intro _)))
                      all_goals (first | exact True.intro | omega | (first | exact w64l (n := 16) (by omega) (by omega) | (rw [sum2_succ]; rfl)))
                    · refine V_exit (evs ?_)
                      refine V_regionX Γ Δ [32] [0, 1, 2, 4, 5, 6, 7, 8, 9, 10, 11, 12, 13, 14, 15, 16, 20, 28, 39, 40, 41, 44, 45, 46, 48, 49, 50, 51, 68, 69, 70, 71] (evs ?_)
                      all_goals (try with_reducible (repeat' (first | apply And.intro | intro _)))
                      all_goals (try (first | with_reducible refine wa_id ?_ | exact True.intro | omega | exact sh_b hR))
                      refine V_next [] (j + 1) (evs ?_) ?_ ?_
                      all_goals (try with_reducible (repeat' (first | apply And.intro | intro _)))
                      all_goals (first | exact True.intro | omega | (first | exact w64l (n := 16) (by omega) (by omega) | exact sum2_over _ (by omega)))
                · refine V_exit (evs ?_)
                  refine V_draw Γ [32] [0, 1, 2, 4, 5, 6, 7, 8, 9, 10, 11, 12, 13, 14, 15, 16, 20, 28, 39, 40, 41, 44, 45, 46, 48, 49, 50, 51, 68, 69, 70, 71] mixed (by kernel_rfl) (evs ?_)
                  have hi := yxI hz ‹(y : Int) < _› ‹(x : Int) < _›
                  have hj : j = 2 * R + 1 := by omega
                  subst hj
                  have b4 := ft_sum hm hR x y (j := 2 * R + 1) (i := 0) (by omega) (by omega)
                  have hs4 := sh4 R (by omega)
                  simp (maxSteps := 10000000) (disch := omega) only [w64]
                  simp only [hs4.1, hi.1, Int.toNat_natCast]
                  all_goals (try with_reducible (repeat' (first | apply And.intro | intro _)))
                  all_goals (try (first | with_reducible refine wa_id ?_ | exact True.intro | exact div_fn _ _ (by omega) (by omega) (by omega) (by omega) | omega | exact sh_b hR))
                  simp only [fFE]
                  refine V_regionX Γ Δ [32] [0, 1, 2, 4, 5, 6, 7, 8, 9, 10, 11, 12, 13, 14, 15, 16, 20, 28, 39, 40, 41, 44, 45, 46, 48, 49, 50, 51, 68, 69, 70, 71] (evs ?_)
                  all_goals (try with_reducible (repeat' (first | apply And.intro | intro _)))
                  all_goals (try (first | with_reducible refine wa_id ?_ | exact True.intro | omega | exact sh_b hR))
                  refine V_next [] (x + 1) (evs ?_) ?_ ?_
                  all_goals (try with_reducible (repeat' (first | apply And.intro | intro _)))
                  all_goals (first | exact True.intro | omega | (first | exact w64l (n := 256) (by omega) (by omega) | exact fil_setI (by rw [gF_at (show x < m.w.toNat by omega)]; done) | exact fil_setI (gF_at (F := fF m (R : Int)) (show x < m.w.toNat by omega)).symm))
            · refine V_exit (evs ?_)
              refine V_regionX Γ Δ [32] [0, 1, 2, 4, 5, 6, 7, 8, 9, 10, 11, 12, 13, 14, 15, 16, 20, 28, 39, 40, 41, 44, 45, 46, 48, 49, 50, 51, 68, 69, 70, 71] (evs ?_)
              all_goals (try with_reducible (repeat' (first | apply And.intro | intro _)))
              all_goals (try (first | with_reducible refine wa_id ?_ | exact True.intro | omega | exact sh_b hR))
              refine V_next [] (y + 1) (evs ?_) ?_ ?_
              all_goals (try with_reducible (repeat' (first | apply And.intro | intro _)))
              all_goals (first | exact True.intro | omega | (first | exact w64l (n := 256) (by omega) (by omega) | (rw [row_e (w := m.w.toNat) (y := y) (x := x) (by omega) (by omega)]; done)))
        · refine V_exit (evs ?_)
          refine WA_seq (x := (fcd Try.f24 [1, 1, 1, 1, 1, 1, 0])) (y := (fcd Try.f24 [1, 1, 1, 1, 1, 1, 1])) ?_
          refine V_regionX Γ Δ [32] [0, 1, 2, 4, 5, 6, 7, 8, 9, 10, 11, 12, 13, 14, 15, 16, 20, 28, 39, 40, 41, 44, 45, 46, 48, 49, 50, 51, 68, 69, 70, 71] (evs ?_)
          all_goals (try with_reducible (repeat' (first | apply And.intro | intro _)))
          all_goals (try (first | with_reducible refine wa_id ?_ | exact True.intro | omega | exact sh_b hR))
          refine V_ret (evs ?_)
          first | exact bk0 _ (fe1 hc) | exact bk0 _ (fe2 ‹_› hc) | (rw [fall hY hc]; exact bk _ (fe3 hm hR)) | (rw [yall hY hc]; exact bk _ (fe3 hm hR))

end Go.S23

