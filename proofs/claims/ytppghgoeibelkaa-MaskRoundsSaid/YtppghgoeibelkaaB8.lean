import Derived.Test.YtppghgoeibelkaaLD
import Derived.Test.YtppghgoeibelkaaB2
set_option linter.unusedSimpArgs false
set_option linter.unusedVariables false
namespace Go.S23
open Go.RowKit Go.Proofs Go.Eng Go.Rect
set_option maxHeartbeats 4000000 in
set_option maxRecDepth 100000 in
/-- imageeditor/mask.Combine -/
theorem comb_fn (a b : Mk) (how : Int) : Eng.Fn Try.prog 34 [mkD a, mkD b, .i how] (.tup [.agg [.dat (.i (combR a b how).w), .dat (.i (combR a b how).h), .own 3 1 ((combR a b how).v.map iC)], .dat (.i (combE a b how))]) := by
  refine Eng.Fn.by (fn := Try.f34) 97 [.cell 6 24, .tmp 7] Try.func34 rfl Try.ntmps34 rfl (by simp) fun w0 => ?_
  refine WA_seq (x := (fcd Try.f34 [0])) (y := (fcd Try.f34 [1])) ?_
  refine V_regionX Γ Δ [48, 56] [0, 1, 2, 3, 4, 6, 7, 8, 9, 10, 11, 12, 16, 22, 30, 39, 43, 51, 68, 76, 77, 78, 79] (evs ?_)
  all_goals (try with_reducible (repeat' (first | apply And.intro | intro _)))
  all_goals (try (first | with_reducible refine wa_id ?_ | exact True.intro | omega | exact combined_fn _ _ _ (orM_b ha k) (orM_b hb k) | (rw [hl2]; omega)))
  refine WA_seq (x := (fcd Try.f34 [1, 0])) (y := (fcd Try.f34 [1, 1])) ?_
  refine WA_seq (x := (fcd Try.f34 [1, 0, 0])) (y := (fcd Try.f34 [1, 0, 1])) ?_
  refine V_regionX Γ Δ [48, 56] [0, 1, 2, 3, 4, 6, 7, 8, 9, 10, 11, 12, 16, 22, 30, 39, 43, 51, 68, 76, 77, 78, 79] (evs ?_)
  all_goals (try with_reducible (repeat' (first | apply And.intro | intro _)))
  all_goals (try (first | with_reducible refine wa_id ?_ | exact True.intro | exact mcheck_fn ⟨_, _, _⟩ | omega | exact combined_fn _ _ _ (orM_b ha k) (orM_b hb k) | (rw [hl2]; omega)))
  refine WA_seq (x := (fcd Try.f34 [1, 0, 1, 0])) (y := (fcd Try.f34 [1, 0, 1, 1])) ?_
  refine V_regionX Γ Δ [48, 56] [0, 1, 2, 3, 4, 6, 7, 8, 9, 10, 11, 12, 16, 22, 30, 39, 43, 51, 68, 76, 77, 78, 79] (evs ?_)
  all_goals (try with_reducible (repeat' (first | apply And.intro | intro _)))
  all_goals (try (first | with_reducible refine wa_id ?_ | exact True.intro | omega | exact combined_fn _ _ _ (orM_b ha k) (orM_b hb k) | (rw [hl2]; omega)))
  refine V_cond (evs ?_)
  refine ⟨fun hc => ?_, fun hc => ?_⟩
  · refine WA_seq (x := (fcd Try.f34 [1, 0, 1, 1, 0, 0])) (y := (fcd Try.f34 [1, 0, 1, 1, 0, 1])) ?_
    refine V_regionX Γ Δ [48, 56] [0, 1, 2, 3, 4, 6, 7, 8, 9, 10, 11, 12, 16, 22, 30, 39, 43, 51, 68, 76, 77, 78, 79] (evs ?_)
    all_goals (try with_reducible (repeat' (first | apply And.intro | intro _)))
    all_goals (try (first | with_reducible refine wa_id ?_ | exact True.intro | omega | exact combined_fn _ _ _ (orM_b ha k) (orM_b hb k) | (rw [hl2]; omega)))
    refine V_ret (evs ?_)
    first | exact bk0 _ (cb1 hc) | exact bk0 _ (cb2 ‹_› hc) | exact bk0 _ (cb3 ‹_› ‹_› hc) | exact bk0 _ (cb4 ha hb hw hc) | exact bk0 _ (cb5 ha hb hw (nb ‹(a.w == 0 && b.w == 0) = false›) hc) | (rw [fil_all (by omega)]; exact bk _ cr)
  · refine WA_skip ?_
    refine WA_seq (x := (fcd Try.f34 [1, 1, 0])) (y := (fcd Try.f34 [1, 1, 1])) ?_
    refine WA_seq (x := (fcd Try.f34 [1, 1, 0, 0])) (y := (fcd Try.f34 [1, 1, 0, 1])) ?_
    refine V_regionX Γ Δ [48, 56] [0, 1, 2, 3, 4, 6, 7, 8, 9, 10, 11, 12, 16, 22, 30, 39, 43, 51, 68, 76, 77, 78, 79] (evs ?_)
    all_goals (try with_reducible (repeat' (first | apply And.intro | intro _)))
    all_goals (try (first | with_reducible refine wa_id ?_ | exact True.intro | exact mcheck_fn ⟨_, _, _⟩ | omega | exact combined_fn _ _ _ (orM_b ha k) (orM_b hb k) | (rw [hl2]; omega)))
    refine WA_seq (x := (fcd Try.f34 [1, 1, 0, 1, 0])) (y := (fcd Try.f34 [1, 1, 0, 1, 1])) ?_
    refine V_regionX Γ Δ [48, 56] [0, 1, 2, 3, 4, 6, 7, 8, 9, 10, 11, 12, 16, 22, 30, 39, 43, 51, 68, 76, 77, 78, 79] (evs ?_)
    all_goals (try with_reducible (repeat' (first | apply And.intro | intro _)))
    all_goals (try (first | with_reducible refine wa_id ?_ | exact True.intro | omega | exact combined_fn _ _ _ (orM_b ha k) (orM_b hb k) | (rw [hl2]; omega)))
    refine V_cond (evs ?_)
    refine ⟨fun hc => ?_, fun hc => ?_⟩
    · refine WA_seq (x := (fcd Try.f34 [1, 1, 0, 1, 1, 0, 0])) (y := (fcd Try.f34 [1, 1, 0, 1, 1, 0, 1])) ?_
      refine V_regionX Γ Δ [48, 56] [0, 1, 2, 3, 4, 6, 7, 8, 9, 10, 11, 12, 16, 22, 30, 39, 43, 51, 68, 76, 77, 78, 79] (evs ?_)
      all_goals (try with_reducible (repeat' (first | apply And.intro | intro _)))
      all_goals (try (first | with_reducible refine wa_id ?_ | exact True.intro | omega | exact combined_fn _ _ _ (orM_b ha k) (orM_b hb k) | (rw [hl2]; omega)))
      refine V_ret (evs ?_)
      first | exact bk0 _ (cb1 hc) | exact bk0 _ (cb2 ‹_› hc) | exact bk0 _ (cb3 ‹_› ‹_› hc) | exact bk0 _ (cb4 ha hb hw hc) | exact bk0 _ (cb5 ha hb hw (nb ‹(a.w == 0 && b.w == 0) = false›) hc) | (rw [fil_all (by omega)]; exact bk _ cr)
    · refine WA_skip ?_
      refine WA_seq (x := (fcd Try.f34 [1, 1, 1, 0])) (y := (fcd Try.f34 [1, 1, 1, 1])) ?_
      refine WA_seq (x := (fcd Try.f34 [1, 1, 1, 0, 0])) (y := (fcd Try.f34 [1, 1, 1, 0, 1])) ?_
      refine V_regionX Γ Δ [48, 56] [0, 1, 2, 3, 4, 6, 7, 8, 9, 10, 11, 12, 16, 22, 30, 39, 43, 51, 68, 76, 77, 78, 79] (evs ?_)
      all_goals (try with_reducible (repeat' (first | apply And.intro | intro _)))
      all_goals (try (first | with_reducible refine wa_id ?_ | exact True.intro | omega | exact combined_fn _ _ _ (orM_b ha k) (orM_b hb k) | (rw [hl2]; omega)))
      refine V_cond (evs ?_)
      refine ⟨fun hc => ?_, fun hc => ?_⟩
      · refine WA_seq (x := (fcd Try.f34 [1, 1, 1, 0, 1, 0, 0])) (y := (fcd Try.f34 [1, 1, 1, 0, 1, 0, 1])) ?_
        refine V_regionX Γ Δ [48, 56] [0, 1, 2, 3, 4, 6, 7, 8, 9, 10, 11, 12, 16, 22, 30, 39, 43, 51, 68, 76, 77, 78, 79] (evs ?_)
        all_goals (try with_reducible (repeat' (first | apply And.intro | intro _)))
        all_goals (try (first | with_reducible refine wa_id ?_ | exact True.intro | omega | exact combined_fn _ _ _ (orM_b ha k) (orM_b hb k) | (rw [hl2]; omega)))
        refine V_ret (evs ?_)
        first | exact bk0 _ (cb1 hc) | exact bk0 _ (cb2 ‹_› hc) | exact bk0 _ (cb3 ‹_› ‹_› hc) | exact bk0 _ (cb4 ha hb hw hc) | exact bk0 _ (cb5 ha hb hw (nb ‹(a.w == 0 && b.w == 0) = false›) hc) | (rw [fil_all (by omega)]; exact bk _ cr)
      · refine WA_skip ?_
        refine WA_seq (x := (fcd Try.f34 [1, 1, 1, 1, 0])) (y := (fcd Try.f34 [1, 1, 1, 1, 1])) ?_
        refine WA_seq (x := (fcd Try.f34 [1, 1, 1, 1, 0, 0])) (y := (fcd Try.f34 [1, 1, 1, 1, 0, 1])) ?_
        refine V_regionX Γ Δ [48, 56] [0, 1, 2, 3, 4, 6, 7, 8, 9, 10, 11, 12, 16, 22, 30, 39, 43, 51, 68, 76, 77, 78, 79] (evs ?_)
        have ha := ‹mchkE a = 0›
        have hb := ‹mchkE b = 0›
        have hw := hc
        all_goals (try with_reducible (repeat' (first | apply And.intro | intro _)))
        all_goals (try (first | with_reducible refine wa_id ?_ | exact True.intro | omega | exact combined_fn _ _ _ (orM_b ha k) (orM_b hb k) | (rw [hl2]; omega)))
        refine V_cond (evs ?_)
        refine ⟨fun hc => ?_, fun hc => ?_⟩
        · refine WA_seq (x := (fcd Try.f34 [1, 1, 1, 1, 0, 1, 0, 0])) (y := (fcd Try.f34 [1, 1, 1, 1, 0, 1, 0, 1])) ?_
          refine V_regionX Γ Δ [48, 56] [0, 1, 2, 3, 4, 6, 7, 8, 9, 10, 11, 12, 16, 22, 30, 39, 43, 51, 68, 76, 77, 78, 79] (evs ?_)
          all_goals (try with_reducible (repeat' (first | apply And.intro | intro _)))
          all_goals (try (first | with_reducible refine wa_id ?_ | exact True.intro | omega | exact combined_fn _ _ _ (orM_b ha k) (orM_b hb k) | (rw [hl2]; omega)))
          refine V_ret (evs ?_)
          first | exact bk0 _ (cb1 hc) | exact bk0 _ (cb2 ‹_› hc) | exact bk0 _ (cb3 ‹_› ‹_› hc) | exact bk0 _ (cb4 ha hb hw hc) | exact bk0 _ (cb5 ha hb hw (nb ‹(a.w == 0 && b.w == 0) = false›) hc) | (rw [fil_all (by omega)]; exact bk _ cr)
        · refine WA_skip ?_
          refine V_cut (x := (fcd Try.f34 [1, 1, 1, 1, 1, 0])) (y := (fcd Try.f34 [1, 1, 1, 1, 1, 1])) (α := Unit) [43] [3, 14800, 14801, 14802, 14803] (fun _ => []) (fun _ => [(3, some (true, .box 24 [.dat (.i (orM a b).w), .dat (.i (orM a b).h), .dat (.sl 1 ((orM a b).v.map iC))]))]) (fun _ => True) ?_ ?_
          · refine WA_seq (x := (fcd Try.f34 [1, 1, 1, 1, 1, 0, 0])) (y := (fcd Try.f34 [1, 1, 1, 1, 1, 0, 1])) ?_
            refine V_regionX Γ Δ [48, 56] [0, 1, 2, 3, 4, 6, 7, 8, 9, 10, 11, 12, 16, 22, 30, 39, 43, 51, 68, 76, 77, 78, 79] (evs ?_)
            all_goals (try with_reducible (repeat' (first | apply And.intro | intro _)))
            all_goals (try (first | with_reducible refine wa_id ?_ | exact True.intro | omega | exact combined_fn _ _ _ (orM_b ha k) (orM_b hb k) | (rw [hl2]; omega)))
            refine V_cond (evs ?_)
            refine ⟨fun hc => ?_, fun hc => ?_⟩
            · refine V_regionX Γ Δ [48, 56] [0, 1, 2, 3, 4, 6, 7, 8, 9, 10, 11, 12, 16, 22, 30, 39, 43, 51, 68, 76, 77, 78, 79] (evs ?_)
              have hz := (mchk0 hb).1
              all_goals (try with_reducible (repeat' (first | apply And.intro | intro _)))
              all_goals (try (first | with_reducible refine wa_id ?_ | exact True.intro | exact even_fn _ _ _ hz | omega | exact combined_fn _ _ _ (orM_b ha k) (orM_b hb k) | (rw [hl2]; omega)))
              refine V_jn [] () (evs ?_) ?_
              all_goals (try with_reducible (repeat' (first | apply And.intro | intro _)))
              all_goals (first | exact True.intro | omega | (first | exact orMw1 hc | exact orMh1 hc | exact orMv1 hc | exact orMw0 hc | exact orMh0 hc | exact orMv0 hc))
            · refine WA_skip ?_
              refine V_jn [] () (evs ?_) ?_
              all_goals (try with_reducible (repeat' (first | apply And.intro | intro _)))
              all_goals (first | exact True.intro | omega | (first | exact orMw1 hc | exact orMh1 hc | exact orMv1 hc | exact orMw0 hc | exact orMh0 hc | exact orMv0 hc))
          · intro _ _
            refine V_cut (x := (fcd Try.f34 [1, 1, 1, 1, 1, 1, 0])) (y := (fcd Try.f34 [1, 1, 1, 1, 1, 1, 1])) (α := Unit) [51] [4, 15600, 15601, 15602, 15603] (fun _ => []) (fun _ => [(4, some (true, .box 24 [.dat (.i (orM b (orM a b)).w), .dat (.i (orM b (orM a b)).h), .dat (.sl 1 ((orM b (orM a b)).v.map iC))]))]) (fun _ => True) ?_ ?_
            · refine WA_seq (x := (fcd Try.f34 [1, 1, 1, 1, 1, 1, 0, 0])) (y := (fcd Try.f34 [1, 1, 1, 1, 1, 1, 0, 1])) ?_
              refine V_regionX Γ Δ [48, 56] [0, 1, 2, 3, 4, 6, 7, 8, 9, 10, 11, 12, 16, 22, 30, 39, 43, 51, 68, 76, 77, 78, 79] (evs ?_)
              all_goals (try with_reducible (repeat' (first | apply And.intro | intro _)))
              all_goals (try (first | with_reducible refine wa_id ?_ | exact True.intro | omega | exact combined_fn _ _ _ (orM_b ha k) (orM_b hb k) | (rw [hl2]; omega)))
              refine V_cond (evs ?_)
              refine ⟨fun hc => ?_, fun hc => ?_⟩
              · refine V_regionX Γ Δ [48, 56] [0, 1, 2, 3, 4, 6, 7, 8, 9, 10, 11, 12, 16, 22, 30, 39, 43, 51, 68, 76, 77, 78, 79] (evs ?_)
                have hz := orM_z ha hb
                all_goals (try with_reducible (repeat' (first | apply And.intro | intro _)))
                all_goals (try (first | with_reducible refine wa_id ?_ | exact True.intro | exact even_fn _ _ _ hz | omega | exact combined_fn _ _ _ (orM_b ha k) (orM_b hb k) | (rw [hl2]; omega)))
                refine V_jn [] () (evs ?_) ?_
                all_goals (try with_reducible (repeat' (first | apply And.intro | intro _)))
                all_goals (first | exact True.intro | omega | (first | exact orMw1 hc | exact orMh1 hc | exact orMv1 hc | exact orMw0 hc | exact orMh0 hc | exact orMv0 hc))
              · refine WA_skip ?_
                refine V_jn [] () (evs ?_) ?_
                all_goals (try with_reducible (repeat' (first | apply And.intro | intro _)))
                all_goals (first | exact True.intro | omega | (first | exact orMw1 hc | exact orMh1 hc | exact orMv1 hc | exact orMw0 hc | exact orMh0 hc | exact orMv0 hc))
            · intro _ _
              refine WA_seq (x := (fcd Try.f34 [1, 1, 1, 1, 1, 1, 1, 0])) (y := (fcd Try.f34 [1, 1, 1, 1, 1, 1, 1, 1])) ?_
              refine WA_seq (x := (fcd Try.f34 [1, 1, 1, 1, 1, 1, 1, 0, 0])) (y := (fcd Try.f34 [1, 1, 1, 1, 1, 1, 1, 0, 1])) ?_
              refine V_regionX Γ Δ [48, 56] [0, 1, 2, 3, 4, 6, 7, 8, 9, 10, 11, 12, 16, 22, 30, 39, 43, 51, 68, 76, 77, 78, 79] (evs ?_)
              all_goals (try with_reducible (repeat' (first | apply And.intro | intro _)))
              all_goals (try (first | with_reducible refine wa_id ?_ | exact True.intro | omega | exact combined_fn _ _ _ (orM_b ha k) (orM_b hb k) | (rw [hl2]; omega)))
              refine V_cond (evs ?_)
              refine ⟨fun hc => ?_, fun hc => ?_⟩
              · refine WA_seq (x := (fcd Try.f34 [1, 1, 1, 1, 1, 1, 1, 0, 1, 0, 0])) (y := (fcd Try.f34 [1, 1, 1, 1, 1, 1, 1, 0, 1, 0, 1])) ?_
                refine V_regionX Γ Δ [48, 56] [0, 1, 2, 3, 4, 6, 7, 8, 9, 10, 11, 12, 16, 22, 30, 39, 43, 51, 68, 76, 77, 78, 79] (evs ?_)
                all_goals (try with_reducible (repeat' (first | apply And.intro | intro _)))
                all_goals (try (first | with_reducible refine wa_id ?_ | exact True.intro | omega | exact combined_fn _ _ _ (orM_b ha k) (orM_b hb k) | (rw [hl2]; omega)))
                refine V_ret (evs ?_)
                first | exact bk0 _ (cb1 hc) | exact bk0 _ (cb2 ‹_› hc) | exact bk0 _ (cb3 ‹_› ‹_› hc) | exact bk0 _ (cb4 ha hb hw hc) | exact bk0 _ (cb5 ha hb hw (nb ‹(a.w == 0 && b.w == 0) = false›) hc) | (rw [fil_all (by omega)]; exact bk _ cr)
              · refine WA_skip ?_
                refine WA_seq (x := (fcd Try.f34 [1, 1, 1, 1, 1, 1, 1, 1, 0])) (y := (fcd Try.f34 [1, 1, 1, 1, 1, 1, 1, 1, 1])) ?_
                refine V_regionX Γ Δ [48, 56] [0, 1, 2, 3, 4, 6, 7, 8, 9, 10, 11, 12, 16, 22, 30, 39, 43, 51, 68, 76, 77, 78, 79] (evs ?_)
                have hd := hc
                have hn := nb ‹(a.w == 0 && b.w == 0) = false›
                have cr := cb6 ha hb hw hn hd
                have hz := orM_z ha hb
                have hl := orM_l ha hb hn
                have hl2 := orM_l2 ha hb hn hd
                have hnb := nn_bd hz
                all_goals (try with_reducible (repeat' (first | apply And.intro | intro _)))
                all_goals (try (first | with_reducible refine wa_id ?_ | exact True.intro | exact blank_fn _ _ hz | omega | exact combined_fn _ _ _ (orM_b ha k) (orM_b hb k) | (rw [hl2]; omega)))
                refine WA_seq (x := (fcd Try.f34 [1, 1, 1, 1, 1, 1, 1, 1, 1, 0])) (y := (fcd Try.f34 [1, 1, 1, 1, 1, 1, 1, 1, 1, 1])) ?_
                refine WA_seq (x := (fcd Try.f34 [1, 1, 1, 1, 1, 1, 1, 1, 1, 0, 0])) (y := (fcd Try.f34 [1, 1, 1, 1, 1, 1, 1, 1, 1, 0, 1])) ?_
                refine V_regionX Γ Δ [48, 56] [0, 1, 2, 3, 4, 6, 7, 8, 9, 10, 11, 12, 16, 22, 30, 39, 43, 51, 68, 76, 77, 78, 79] (evs ?_)
                all_goals (try with_reducible (repeat' (first | apply And.intro | intro _)))
                all_goals (try (first | with_reducible refine wa_id ?_ | exact True.intro | omega | exact combined_fn _ _ _ (orM_b ha k) (orM_b hb k) | (rw [hl2]; omega)))
                refine WA_block (c := (fcd Try.f34 [1, 1, 1, 1, 1, 1, 1, 1, 1, 0, 1, 0])) ?_
                refine V_loop (c := (fcd Try.f34 [1, 1, 1, 1, 1, 1, 1, 1, 1, 0, 1, 0, 0])) (α := Nat) [11, 12, 78, 79] [17400, 19300, 19301, 19302, 19303] (fun k => [(78, .dat (.i (k : Int)))]) (fun k => [(17400, some (true, .arr 3 1 ((fil (nn (orM a b).w (orM a b).h) (cF a b how) k).map iC)))]) (fun k => k ≤ (orM a b).v.length) (fun k => (orM a b).v.length - k) 0 [] ?_ (evs ?_) ?_
                · exact Nat.zero_le _
                · (try with_reducible (repeat' (first | apply And.intro | intro _)))
                  all_goals (first | exact True.intro | omega | (first | exact fil_0I _ _ | rfl))
                · intro k hI
                  refine WA_seq (x := (fcd Try.f34 [1, 1, 1, 1, 1, 1, 1, 1, 1, 0, 1, 0, 0, 0])) (y := (fcd Try.f34 [1, 1, 1, 1, 1, 1, 1, 1, 1, 0, 1, 0, 0, 1])) ?_
                  refine V_regionX Γ Δ [48, 56] [0, 1, 2, 3, 4, 6, 7, 8, 9, 10, 11, 12, 16, 22, 30, 39, 43, 51, 68, 76, 77, 78, 79] (evs ?_)
                  all_goals (try with_reducible (repeat' (first | apply And.intro | intro _)))
                  all_goals (try (first | with_reducible refine wa_id ?_ | exact True.intro | omega | exact combined_fn _ _ _ (orM_b ha k) (orM_b hb k) | (rw [hl2]; omega)))
                  refine WA_seq (x := (fcd Try.f34 [1, 1, 1, 1, 1, 1, 1, 1, 1, 0, 1, 0, 0, 1, 0])) (y := (fcd Try.f34 [1, 1, 1, 1, 1, 1, 1, 1, 1, 0, 1, 0, 0, 1, 1])) ?_
                  refine V_cond (evs ?_)
                  refine ⟨fun hc => ?_, fun hc => ?_⟩
                  · refine WA_skip ?_
                    refine WA_seq (x := (fcd Try.f34 [1, 1, 1, 1, 1, 1, 1, 1, 1, 0, 1, 0, 0, 1, 1, 0])) (y := (fcd Try.f34 [1, 1, 1, 1, 1, 1, 1, 1, 1, 0, 1, 0, 0, 1, 1, 1])) ?_
                    refine WA_block (c := (fcd Try.f34 [1, 1, 1, 1, 1, 1, 1, 1, 1, 0, 1, 0, 0, 1, 1, 0, 0])) ?_
                    refine WA_seq (x := (fcd Try.f34 [1, 1, 1, 1, 1, 1, 1, 1, 1, 0, 1, 0, 0, 1, 1, 0, 0, 0])) (y := (fcd Try.f34 [1, 1, 1, 1, 1, 1, 1, 1, 1, 0, 1, 0, 0, 1, 1, 0, 0, 1])) ?_
                    refine V_regionX Γ Δ [48, 56] [0, 1, 2, 3, 4, 6, 7, 8, 9, 10, 11, 12, 16, 22, 30, 39, 43, 51, 68, 76, 77, 78, 79] (evs ?_)
                    all_goals (try with_reducible (repeat' (first | apply And.intro | intro _)))
                    all_goals (try (first | with_reducible refine wa_id ?_ | exact True.intro | omega | exact combined_fn _ _ _ (orM_b ha k) (orM_b hb k) | (rw [hl2]; omega)))
                    refine V_draw Γ [48, 56] [0, 1, 2, 3, 4, 6, 7, 8, 9, 10, 11, 12, 16, 22, 30, 39, 43, 51, 68, 76, 77, 78, 79] mixed (by kernel_rfl) (evs ?_)
                    all_goals (try with_reducible (repeat' (first | apply And.intro | intro _)))
                    all_goals (try (first | with_reducible refine wa_id ?_ | exact True.intro | exact combined_fn _ _ _ (by omega) (by omega) | omega | exact combined_fn _ _ _ (orM_b ha k) (orM_b hb k) | (rw [hl2]; omega)))
                    refine V_regionX Γ Δ [48, 56] [0, 1, 2, 3, 4, 6, 7, 8, 9, 10, 11, 12, 16, 22, 30, 39, 43, 51, 68, 76, 77, 78, 79] (evs ?_)
                    all_goals (try with_reducible (repeat' (first | apply And.intro | intro _)))
                    all_goals (try (first | with_reducible refine wa_id ?_ | exact True.intro | omega | exact combined_fn _ _ _ (orM_b ha k) (orM_b hb k) | (rw [hl2]; omega)))
                    refine V_next [] (k + 1) (evs ?_) ?_ ?_
                    all_goals (try with_reducible (repeat' (first | apply And.intro | intro _)))
                    all_goals (first | exact True.intro | omega | (first | exact w64l (n := 65536) (by omega) (by omega) | exact fil_setI (orM_c ha hb hn hd (by omega))))
                  · refine V_exit (evs ?_)
                    refine WA_seq (x := (fcd Try.f34 [1, 1, 1, 1, 1, 1, 1, 1, 1, 1, 0])) (y := (fcd Try.f34 [1, 1, 1, 1, 1, 1, 1, 1, 1, 1, 1])) ?_
                    refine V_regionX Γ Δ [48, 56] [0, 1, 2, 3, 4, 6, 7, 8, 9, 10, 11, 12, 16, 22, 30, 39, 43, 51, 68, 76, 77, 78, 79] (evs ?_)
                    all_goals (try with_reducible (repeat' (first | apply And.intro | intro _)))
                    all_goals (try (first | with_reducible refine wa_id ?_ | exact True.intro | omega | exact combined_fn _ _ _ (orM_b ha k) (orM_b hb k) | (rw [hl2]; omega)))
                    refine V_ret (evs ?_)
                    first | exact bk0 _ (cb1 hc) | exact bk0 _ (cb2 ‹_› hc) | exact bk0 _ (cb3 ‹_› ‹_› hc) | exact bk0 _ (cb4 ha hb hw hc) | exact bk0 _ (cb5 ha hb hw (nb ‹(a.w == 0 && b.w == 0) = false›) hc) | (rw [fil_all (by omega)]; exact bk _ cr)

end Go.S23

