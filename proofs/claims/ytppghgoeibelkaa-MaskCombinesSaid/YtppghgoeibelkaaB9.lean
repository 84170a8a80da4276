import Derived.Test.YtppghgoeibelkaaLD
import Derived.Test.YtppghgoeibelkaaB2
set_option linter.unusedSimpArgs false
set_option linter.unusedVariables false
namespace Go.S23
open Go.RowKit Go.Proofs Go.Eng Go.Rect
set_option maxHeartbeats 4000000 in
set_option maxRecDepth 100000 in
/-- imageeditor/imageeditorref23.Combine -/
theorem rcomb_fn (a b : Mk) (how : Int) : Eng.Fn Try.prog 35 [mkD a, mkD b, .i how] (.tup [.agg [.dat (.i (combR a b how).w), .dat (.i (combR a b how).h), .own 3 1 ((combR a b how).v.map iC)], .dat (.i (combE a b how))]) := by
  refine Eng.Fn.by (fn := Try.f35) 126 [.cell 6 24, .tmp 7] Try.func35 rfl Try.ntmps35 rfl (by simp) fun w0 => ?_
  refine WA_seq (x := (fcd Try.f35 [0])) (y := (fcd Try.f35 [1])) ?_
  refine V_regionX Γ Δ [122] [0, 1, 2, 3, 4, 6, 7, 8, 9, 10, 11, 12, 13, 14, 18, 24, 32, 55, 74, 79, 87, 95, 100, 106, 111] (evs ?_)
  all_goals (try with_reducible (repeat' (first | apply And.intro | intro _)))
  all_goals (try (first | with_reducible refine wa_id ?_ | exact True.intro | omega | (rw [tab_len]; omega)))
  refine WA_seq (x := (fcd Try.f35 [1, 0])) (y := (fcd Try.f35 [1, 1])) ?_
  refine WA_seq (x := (fcd Try.f35 [1, 0, 0])) (y := (fcd Try.f35 [1, 0, 1])) ?_
  refine V_regionX Γ Δ [122] [0, 1, 2, 3, 4, 6, 7, 8, 9, 10, 11, 12, 13, 14, 18, 24, 32, 55, 74, 79, 87, 95, 100, 106, 111] (evs ?_)
  all_goals (try with_reducible (repeat' (first | apply And.intro | intro _)))
  all_goals (try (first | with_reducible refine wa_id ?_ | exact True.intro | exact rmcheck_fn ⟨_, _, _⟩ | omega | (rw [tab_len]; omega)))
  refine WA_seq (x := (fcd Try.f35 [1, 0, 1, 0])) (y := (fcd Try.f35 [1, 0, 1, 1])) ?_
  refine V_regionX Γ Δ [122] [0, 1, 2, 3, 4, 6, 7, 8, 9, 10, 11, 12, 13, 14, 18, 24, 32, 55, 74, 79, 87, 95, 100, 106, 111] (evs ?_)
  all_goals (try with_reducible (repeat' (first | apply And.intro | intro _)))
  all_goals (try (first | with_reducible refine wa_id ?_ | exact True.intro | omega | (rw [tab_len]; omega)))
  refine V_cond (evs ?_)
  refine ⟨fun hc => ?_, fun hc => ?_⟩
  · refine WA_seq (x := (fcd Try.f35 [1, 0, 1, 1, 0, 0])) (y := (fcd Try.f35 [1, 0, 1, 1, 0, 1])) ?_
    refine V_regionX Γ Δ [122] [0, 1, 2, 3, 4, 6, 7, 8, 9, 10, 11, 12, 13, 14, 18, 24, 32, 55, 74, 79, 87, 95, 100, 106, 111] (evs ?_)
    all_goals (try with_reducible (repeat' (first | apply And.intro | intro _)))
    all_goals (try (first | with_reducible refine wa_id ?_ | exact True.intro | omega | (rw [tab_len]; omega)))
    refine V_ret (evs ?_)
    first | exact bk0 _ (cb1 hc) | exact bk0 _ (cb2 ‹_› hc) | exact bk0 _ (cb3 ‹_› ‹_› hc) | exact bk0 _ (cb5r ha hb hw ⟨hc.1.1, hc.1.2, hc.2⟩) | exact bk _ (cb6r ha hb hw hn (by omega))
  · refine WA_skip ?_
    refine WA_seq (x := (fcd Try.f35 [1, 1, 0])) (y := (fcd Try.f35 [1, 1, 1])) ?_
    refine WA_seq (x := (fcd Try.f35 [1, 1, 0, 0])) (y := (fcd Try.f35 [1, 1, 0, 1])) ?_
    refine V_regionX Γ Δ [122] [0, 1, 2, 3, 4, 6, 7, 8, 9, 10, 11, 12, 13, 14, 18, 24, 32, 55, 74, 79, 87, 95, 100, 106, 111] (evs ?_)
    all_goals (try with_reducible (repeat' (first | apply And.intro | intro _)))
    all_goals (try (first | with_reducible refine wa_id ?_ | exact True.intro | exact rmcheck_fn ⟨_, _, _⟩ | omega | (rw [tab_len]; omega)))
    refine WA_seq (x := (fcd Try.f35 [1, 1, 0, 1, 0])) (y := (fcd Try.f35 [1, 1, 0, 1, 1])) ?_
    refine V_regionX Γ Δ [122] [0, 1, 2, 3, 4, 6, 7, 8, 9, 10, 11, 12, 13, 14, 18, 24, 32, 55, 74, 79, 87, 95, 100, 106, 111] (evs ?_)
    all_goals (try with_reducible (repeat' (first | apply And.intro | intro _)))
    all_goals (try (first | with_reducible refine wa_id ?_ | exact True.intro | omega | (rw [tab_len]; omega)))
    refine V_cond (evs ?_)
    refine ⟨fun hc => ?_, fun hc => ?_⟩
    · refine WA_seq (x := (fcd Try.f35 [1, 1, 0, 1, 1, 0, 0])) (y := (fcd Try.f35 [1, 1, 0, 1, 1, 0, 1])) ?_
      refine V_regionX Γ Δ [122] [0, 1, 2, 3, 4, 6, 7, 8, 9, 10, 11, 12, 13, 14, 18, 24, 32, 55, 74, 79, 87, 95, 100, 106, 111] (evs ?_)
      all_goals (try with_reducible (repeat' (first | apply And.intro | intro _)))
      all_goals (try (first | with_reducible refine wa_id ?_ | exact True.intro | omega | (rw [tab_len]; omega)))
      refine V_ret (evs ?_)
      first | exact bk0 _ (cb1 hc) | exact bk0 _ (cb2 ‹_› hc) | exact bk0 _ (cb3 ‹_› ‹_› hc) | exact bk0 _ (cb5r ha hb hw ⟨hc.1.1, hc.1.2, hc.2⟩) | exact bk _ (cb6r ha hb hw hn (by omega))
    · refine WA_skip ?_
      refine WA_seq (x := (fcd Try.f35 [1, 1, 1, 0])) (y := (fcd Try.f35 [1, 1, 1, 1])) ?_
      refine WA_seq (x := (fcd Try.f35 [1, 1, 1, 0, 0])) (y := (fcd Try.f35 [1, 1, 1, 0, 1])) ?_
      refine V_regionX Γ Δ [122] [0, 1, 2, 3, 4, 6, 7, 8, 9, 10, 11, 12, 13, 14, 18, 24, 32, 55, 74, 79, 87, 95, 100, 106, 111] (evs ?_)
      all_goals (try with_reducible (repeat' (first | apply And.intro | intro _)))
      all_goals (try (first | with_reducible refine wa_id ?_ | exact True.intro | omega | (rw [tab_len]; omega)))
      refine V_cond (evs ?_)
      refine ⟨fun hc => ?_, fun hc => ?_⟩
      · refine WA_seq (x := (fcd Try.f35 [1, 1, 1, 0, 1, 0, 0])) (y := (fcd Try.f35 [1, 1, 1, 0, 1, 0, 1])) ?_
        refine V_regionX Γ Δ [122] [0, 1, 2, 3, 4, 6, 7, 8, 9, 10, 11, 12, 13, 14, 18, 24, 32, 55, 74, 79, 87, 95, 100, 106, 111] (evs ?_)
        all_goals (try with_reducible (repeat' (first | apply And.intro | intro _)))
        all_goals (try (first | with_reducible refine wa_id ?_ | exact True.intro | omega | (rw [tab_len]; omega)))
        refine V_ret (evs ?_)
        first | exact bk0 _ (cb1 hc) | exact bk0 _ (cb2 ‹_› hc) | exact bk0 _ (cb3 ‹_› ‹_› hc) | exact bk0 _ (cb5r ha hb hw ⟨hc.1.1, hc.1.2, hc.2⟩) | exact bk _ (cb6r ha hb hw hn (by omega))
      · refine WA_skip ?_
        refine WA_seq (x := (fcd Try.f35 [1, 1, 1, 1, 0])) (y := (fcd Try.f35 [1, 1, 1, 1, 1])) ?_
        refine WA_seq (x := (fcd Try.f35 [1, 1, 1, 1, 0, 0])) (y := (fcd Try.f35 [1, 1, 1, 1, 0, 1])) ?_
        refine V_regionX Γ Δ [122] [0, 1, 2, 3, 4, 6, 7, 8, 9, 10, 11, 12, 13, 14, 18, 24, 32, 55, 74, 79, 87, 95, 100, 106, 111] (evs ?_)
        have ha := ‹mchkE a = 0›
        have hb := ‹mchkE b = 0›
        have hw := hc
        all_goals (try with_reducible (repeat' (first | apply And.intro | intro _)))
        all_goals (try (first | with_reducible refine wa_id ?_ | exact True.intro | omega | (rw [tab_len]; omega)))
        refine V_cond (evs ?_)
        refine ⟨fun hc => ?_, fun hc => ?_⟩
        · refine WA_seq (x := (fcd Try.f35 [1, 1, 1, 1, 0, 1, 0, 0])) (y := (fcd Try.f35 [1, 1, 1, 1, 0, 1, 0, 1])) ?_
          refine V_regionX Γ Δ [122] [0, 1, 2, 3, 4, 6, 7, 8, 9, 10, 11, 12, 13, 14, 18, 24, 32, 55, 74, 79, 87, 95, 100, 106, 111] (evs ?_)
          all_goals (try with_reducible (repeat' (first | apply And.intro | intro _)))
          all_goals (try (first | with_reducible refine wa_id ?_ | exact True.intro | omega | (rw [tab_len]; omega)))
          refine V_ret (evs ?_)
          first | exact bk0 _ (cb1 hc) | exact bk0 _ (cb2 ‹_› hc) | exact bk0 _ (cb3 ‹_› ‹_› hc) | exact bk0 _ (cb5r ha hb hw ⟨hc.1.1, hc.1.2, hc.2⟩) | exact bk _ (cb6r ha hb hw hn (by omega))
        · refine WA_skip ?_
          refine WA_seq (x := (fcd Try.f35 [1, 1, 1, 1, 1, 0])) (y := (fcd Try.f35 [1, 1, 1, 1, 1, 1])) ?_
          refine V_regionX Γ Δ [122] [0, 1, 2, 3, 4, 6, 7, 8, 9, 10, 11, 12, 13, 14, 18, 24, 32, 55, 74, 79, 87, 95, 100, 106, 111] (evs ?_)
          have hn := nb2 hc
          have hz := mx_z ha hb
          have hnb := nn_bd hz
          have oa := orU_bd ha
          have ob := orU_bd hb
          all_goals (try with_reducible (repeat' (first | apply And.intro | intro _)))
          all_goals (try (first | with_reducible refine wa_id ?_ | exact True.intro | omega | (rw [tab_len]; omega)))
          refine WA_seq (x := (fcd Try.f35 [1, 1, 1, 1, 1, 1, 0])) (y := (fcd Try.f35 [1, 1, 1, 1, 1, 1, 1])) ?_
          refine WA_seq (x := (fcd Try.f35 [1, 1, 1, 1, 1, 1, 0, 0])) (y := (fcd Try.f35 [1, 1, 1, 1, 1, 1, 0, 1])) ?_
          refine V_regionX Γ Δ [122] [0, 1, 2, 3, 4, 6, 7, 8, 9, 10, 11, 12, 13, 14, 18, 24, 32, 55, 74, 79, 87, 95, 100, 106, 111] (evs ?_)
          all_goals (try with_reducible (repeat' (first | apply And.intro | intro _)))
          all_goals (try (first | with_reducible refine wa_id ?_ | exact True.intro | omega | (rw [tab_len]; omega)))
          refine WA_block (c := (fcd Try.f35 [1, 1, 1, 1, 1, 1, 0, 1, 0])) ?_
          refine V_loop (c := (fcd Try.f35 [1, 1, 1, 1, 1, 1, 0, 1, 0, 0])) (α := Nat) [11, 12, 13, 14, 74, 79, 87, 95, 100, 106, 111] [10, 122, 123] (fun k => [(11, .dat (.i (k : Int)))]) (fun k => [(20000, some (true, .arr 3 1 ((tab k (cF a b how)).map iC))), (10, some (true, .box 24 [.dat (.i (max a.w b.w)), .dat (.i (max a.h b.h)), .vw 20000 0 (k) 1]))]) (fun k => k ≤ nn (max a.w b.w) (max a.h b.h)) (fun k => nn (max a.w b.w) (max a.h b.h) - k) 0 [(20000, none)] ?_ (evs ?_) ?_
          · exact Nat.zero_le _
          · (try with_reducible (repeat' (first | apply And.intro | intro _)))
            all_goals (first | exact True.intro | omega | (first | rfl | (simp [tab]; done)))
          · intro k hI
            refine WA_seq (x := (fcd Try.f35 [1, 1, 1, 1, 1, 1, 0, 1, 0, 0, 0])) (y := (fcd Try.f35 [1, 1, 1, 1, 1, 1, 0, 1, 0, 0, 1])) ?_
            refine WA_seq (x := (fcd Try.f35 [1, 1, 1, 1, 1, 1, 0, 1, 0, 0, 0, 0])) (y := (fcd Try.f35 [1, 1, 1, 1, 1, 1, 0, 1, 0, 0, 0, 1])) ?_
            refine V_regionX Γ Δ [122] [0, 1, 2, 3, 4, 6, 7, 8, 9, 10, 11, 12, 13, 14, 18, 24, 32, 55, 74, 79, 87, 95, 100, 106, 111] (evs ?_)
            simp only [wN hz]
            all_goals (try with_reducible (repeat' (first | apply And.intro | intro _)))
            all_goals (try (first | with_reducible refine wa_id ?_ | exact True.intro | omega | (rw [tab_len]; omega)))
            refine V_cond (evs ?_)
            refine ⟨fun hc => ?_, fun hc => ?_⟩
            · refine WA_skip ?_
              refine WA_seq (x := (fcd Try.f35 [1, 1, 1, 1, 1, 1, 0, 1, 0, 0, 1, 0])) (y := (fcd Try.f35 [1, 1, 1, 1, 1, 1, 0, 1, 0, 0, 1, 1])) ?_
              refine WA_block (c := (fcd Try.f35 [1, 1, 1, 1, 1, 1, 0, 1, 0, 0, 1, 0, 0])) ?_
              refine WA_seq (x := (fcd Try.f35 [1, 1, 1, 1, 1, 1, 0, 1, 0, 0, 1, 0, 0, 0])) (y := (fcd Try.f35 [1, 1, 1, 1, 1, 1, 0, 1, 0, 0, 1, 0, 0, 1])) ?_
              refine V_regionX Γ Δ [122] [0, 1, 2, 3, 4, 6, 7, 8, 9, 10, 11, 12, 13, 14, 18, 24, 32, 55, 74, 79, 87, 95, 100, 106, 111] (evs ?_)
              all_goals (try with_reducible (repeat' (first | apply And.intro | intro _)))
              all_goals (try (first | with_reducible refine wa_id ?_ | exact True.intro | omega | (rw [tab_len]; omega)))
              refine WA_seq (x := (fcd Try.f35 [1, 1, 1, 1, 1, 1, 0, 1, 0, 0, 1, 0, 0, 1, 0])) (y := (fcd Try.f35 [1, 1, 1, 1, 1, 1, 0, 1, 0, 0, 1, 0, 0, 1, 1])) ?_
              refine V_regionX Γ Δ [122] [0, 1, 2, 3, 4, 6, 7, 8, 9, 10, 11, 12, 13, 14, 18, 24, 32, 55, 74, 79, 87, 95, 100, 106, 111] (evs ?_)
              all_goals (try with_reducible (repeat' (first | apply And.intro | intro _)))
              all_goals (try (first | with_reducible refine wa_id ?_ | exact True.intro | omega | (rw [tab_len]; omega)))
              refine V_cut (x := (fcd Try.f35 [1, 1, 1, 1, 1, 1, 0, 1, 0, 0, 1, 0, 0, 1, 1, 0])) (y := (fcd Try.f35 [1, 1, 1, 1, 1, 1, 0, 1, 0, 0, 1, 0, 0, 1, 1, 1])) (α := Unit) [12, 79] [] (fun _ => [(12, .dat (.i (orU a k)))]) (fun _ => []) (fun _ => True) ?_ ?_
              · refine WA_seq (x := (fcd Try.f35 [1, 1, 1, 1, 1, 1, 0, 1, 0, 0, 1, 0, 0, 1, 1, 0, 0])) (y := (fcd Try.f35 [1, 1, 1, 1, 1, 1, 0, 1, 0, 0, 1, 0, 0, 1, 1, 0, 1])) ?_
                refine V_regionX Γ Δ [122] [0, 1, 2, 3, 4, 6, 7, 8, 9, 10, 11, 12, 13, 14, 18, 24, 32, 55, 74, 79, 87, 95, 100, 106, 111] (evs ?_)
                all_goals (try with_reducible (repeat' (first | apply And.intro | intro _)))
                all_goals (try (first | with_reducible refine wa_id ?_ | exact True.intro | omega | (rw [tab_len]; omega)))
                refine V_cond (evs ?_)
                refine ⟨fun hc => ?_, fun hc => ?_⟩
                · refine V_regionX Γ Δ [122] [0, 1, 2, 3, 4, 6, 7, 8, 9, 10, 11, 12, 13, 14, 18, 24, 32, 55, 74, 79, 87, 95, 100, 106, 111] (evs ?_)
                  have hl := orU_k ha hb hn hc ‹(k : Int) < _›
                  all_goals (try with_reducible (repeat' (first | apply And.intro | intro _)))
                  all_goals (try (first | with_reducible refine wa_id ?_ | exact True.intro | omega | (rw [tab_len]; omega)))
                  refine V_jn [] () (evs ?_) ?_
                  all_goals (try with_reducible (repeat' (first | apply And.intro | intro _)))
                  all_goals (first | exact True.intro | omega | (first | exact orU1 hc | exact orU0 hc))
                · refine WA_skip ?_
                  refine V_jn [] () (evs ?_) ?_
                  all_goals (try with_reducible (repeat' (first | apply And.intro | intro _)))
                  all_goals (first | exact True.intro | omega | (first | exact orU1 hc | exact orU0 hc))
              · intro _ _
                refine V_cut (x := (fcd Try.f35 [1, 1, 1, 1, 1, 1, 0, 1, 0, 0, 1, 0, 0, 1, 1, 1, 0])) (y := (fcd Try.f35 [1, 1, 1, 1, 1, 1, 0, 1, 0, 0, 1, 0, 0, 1, 1, 1, 1])) (α := Unit) [13, 87] [] (fun _ => [(13, .dat (.i (orU b k)))]) (fun _ => []) (fun _ => True) ?_ ?_
                · refine WA_seq (x := (fcd Try.f35 [1, 1, 1, 1, 1, 1, 0, 1, 0, 0, 1, 0, 0, 1, 1, 1, 0, 0])) (y := (fcd Try.f35 [1, 1, 1, 1, 1, 1, 0, 1, 0, 0, 1, 0, 0, 1, 1, 1, 0, 1])) ?_
                  refine V_regionX Γ Δ [122] [0, 1, 2, 3, 4, 6, 7, 8, 9, 10, 11, 12, 13, 14, 18, 24, 32, 55, 74, 79, 87, 95, 100, 106, 111] (evs ?_)
                  all_goals (try with_reducible (repeat' (first | apply And.intro | intro _)))
                  all_goals (try (first | with_reducible refine wa_id ?_ | exact True.intro | omega | (rw [tab_len]; omega)))
                  refine V_cond (evs ?_)
                  refine ⟨fun hc => ?_, fun hc => ?_⟩
                  · refine V_regionX Γ Δ [122] [0, 1, 2, 3, 4, 6, 7, 8, 9, 10, 11, 12, 13, 14, 18, 24, 32, 55, 74, 79, 87, 95, 100, 106, 111] (evs ?_)
                    have hl := orU_k2 ha hb hn hc ‹(k : Int) < _›
                    all_goals (try with_reducible (repeat' (first | apply And.intro | intro _)))
                    all_goals (try (first | with_reducible refine wa_id ?_ | exact True.intro | omega | (rw [tab_len]; omega)))
                    refine V_jn [] () (evs ?_) ?_
                    all_goals (try with_reducible (repeat' (first | apply And.intro | intro _)))
                    all_goals (first | exact True.intro | omega | (first | exact orU1 hc | exact orU0 hc))
                  · refine WA_skip ?_
                    refine V_jn [] () (evs ?_) ?_
                    all_goals (try with_reducible (repeat' (first | apply And.intro | intro _)))
                    all_goals (first | exact True.intro | omega | (first | exact orU1 hc | exact orU0 hc))
                · intro _ _
                  refine WA_seq (x := (fcd Try.f35 [1, 1, 1, 1, 1, 1, 0, 1, 0, 0, 1, 0, 0, 1, 1, 1, 1, 0])) (y := (fcd Try.f35 [1, 1, 1, 1, 1, 1, 0, 1, 0, 0, 1, 0, 0, 1, 1, 1, 1, 1])) ?_
                  refine V_regionX Γ Δ [122] [0, 1, 2, 3, 4, 6, 7, 8, 9, 10, 11, 12, 13, 14, 18, 24, 32, 55, 74, 79, 87, 95, 100, 106, 111] (evs ?_)
                  all_goals (try with_reducible (repeat' (first | apply And.intro | intro _)))
                  all_goals (try (first | with_reducible refine wa_id ?_ | exact True.intro | omega | (rw [tab_len]; omega)))
                  refine V_cut (x := (fcd Try.f35 [1, 1, 1, 1, 1, 1, 0, 1, 0, 0, 1, 0, 0, 1, 1, 1, 1, 1, 0])) (y := (fcd Try.f35 [1, 1, 1, 1, 1, 1, 0, 1, 0, 0, 1, 0, 0, 1, 1, 1, 1, 1, 1])) (α := Unit) [14, 95] [] (fun _ => [(14, .dat (.i (cm1 (orU a k) (orU b k) how)))]) (fun _ => []) (fun _ => True) ?_ ?_
                  · refine WA_seq (x := (fcd Try.f35 [1, 1, 1, 1, 1, 1, 0, 1, 0, 0, 1, 0, 0, 1, 1, 1, 1, 1, 0, 0])) (y := (fcd Try.f35 [1, 1, 1, 1, 1, 1, 0, 1, 0, 0, 1, 0, 0, 1, 1, 1, 1, 1, 0, 1])) ?_
                    refine V_regionX Γ Δ [122] [0, 1, 2, 3, 4, 6, 7, 8, 9, 10, 11, 12, 13, 14, 18, 24, 32, 55, 74, 79, 87, 95, 100, 106, 111] (evs ?_)
                    all_goals (try with_reducible (repeat' (first | apply And.intro | intro _)))
                    all_goals (try (first | with_reducible refine wa_id ?_ | exact True.intro | omega | (rw [tab_len]; omega)))
                    refine V_cond (evs ?_)
                    refine ⟨fun hc => ?_, fun hc => ?_⟩
                    · refine V_regionX Γ Δ [122] [0, 1, 2, 3, 4, 6, 7, 8, 9, 10, 11, 12, 13, 14, 18, 24, 32, 55, 74, 79, 87, 95, 100, 106, 111] (evs ?_)
                      all_goals (try with_reducible (repeat' (first | apply And.intro | intro _)))
                      all_goals (try (first | with_reducible refine wa_id ?_ | exact True.intro | omega | (rw [tab_len]; omega)))
                      refine V_jn [] () (evs ?_) ?_
                      all_goals (try with_reducible (repeat' (first | apply And.intro | intro _)))
                      all_goals (first | exact True.intro | omega | (first | (simp [cm1, hc]; done)))
                    · refine WA_skip ?_
                      refine V_jn [] () (evs ?_) ?_
                      all_goals (try with_reducible (repeat' (first | apply And.intro | intro _)))
                      all_goals (first | exact True.intro | omega | (first | (simp [cm1, hc]; done)))
                  · intro _ _
                    refine V_cut (x := (fcd Try.f35 [1, 1, 1, 1, 1, 1, 0, 1, 0, 0, 1, 0, 0, 1, 1, 1, 1, 1, 1, 0])) (y := (fcd Try.f35 [1, 1, 1, 1, 1, 1, 0, 1, 0, 0, 1, 0, 0, 1, 1, 1, 1, 1, 1, 1])) (α := Unit) [14, 100] [] (fun _ => [(14, .dat (.i (cm2 (orU a k) (orU b k) how)))]) (fun _ => []) (fun _ => True) ?_ ?_
                    · refine WA_seq (x := (fcd Try.f35 [1, 1, 1, 1, 1, 1, 0, 1, 0, 0, 1, 0, 0, 1, 1, 1, 1, 1, 1, 0, 0])) (y := (fcd Try.f35 [1, 1, 1, 1, 1, 1, 0, 1, 0, 0, 1, 0, 0, 1, 1, 1, 1, 1, 1, 0, 1])) ?_
                      refine V_regionX Γ Δ [122] [0, 1, 2, 3, 4, 6, 7, 8, 9, 10, 11, 12, 13, 14, 18, 24, 32, 55, 74, 79, 87, 95, 100, 106, 111] (evs ?_)
                      all_goals (try with_reducible (repeat' (first | apply And.intro | intro _)))
                      all_goals (try (first | with_reducible refine wa_id ?_ | exact True.intro | omega | (rw [tab_len]; omega)))
                      refine V_cond (evs ?_)
                      refine ⟨fun hc => ?_, fun hc => ?_⟩
                      · refine V_regionX Γ Δ [122] [0, 1, 2, 3, 4, 6, 7, 8, 9, 10, 11, 12, 13, 14, 18, 24, 32, 55, 74, 79, 87, 95, 100, 106, 111] (evs ?_)
                        have := oa k
                        have := ob k
                        simp (maxSteps := 10000000) (disch := omega) only [w64]
                        all_goals (try with_reducible (repeat' (first | apply And.intro | intro _)))
                        all_goals (try (first | with_reducible refine wa_id ?_ | exact True.intro | omega | (rw [tab_len]; omega)))
                        refine V_jn [] () (evs ?_) ?_
                        all_goals (try with_reducible (repeat' (first | apply And.intro | intro _)))
                        all_goals (first | exact True.intro | omega | (first | (simp [cm2, hc]; done)))
                      · refine WA_skip ?_
                        refine V_jn [] () (evs ?_) ?_
                        all_goals (try with_reducible (repeat' (first | apply And.intro | intro _)))
                        all_goals (first | exact True.intro | omega | (first | (simp [cm2, hc]; done)))
                    · intro _ _
                      refine V_cut (x := (fcd Try.f35 [1, 1, 1, 1, 1, 1, 0, 1, 0, 0, 1, 0, 0, 1, 1, 1, 1, 1, 1, 1, 0])) (y := (fcd Try.f35 [1, 1, 1, 1, 1, 1, 0, 1, 0, 0, 1, 0, 0, 1, 1, 1, 1, 1, 1, 1, 1])) (α := Unit) [14, 106] [] (fun _ => [(14, .dat (.i (cm3 (orU a k) (orU b k) how)))]) (fun _ => []) (fun _ => True) ?_ ?_
                      · refine WA_seq (x := (fcd Try.f35 [1, 1, 1, 1, 1, 1, 0, 1, 0, 0, 1, 0, 0, 1, 1, 1, 1, 1, 1, 1, 0, 0])) (y := (fcd Try.f35 [1, 1, 1, 1, 1, 1, 0, 1, 0, 0, 1, 0, 0, 1, 1, 1, 1, 1, 1, 1, 0, 1])) ?_
                        refine V_regionX Γ Δ [122] [0, 1, 2, 3, 4, 6, 7, 8, 9, 10, 11, 12, 13, 14, 18, 24, 32, 55, 74, 79, 87, 95, 100, 106, 111] (evs ?_)
                        all_goals (try with_reducible (repeat' (first | apply And.intro | intro _)))
                        all_goals (try (first | with_reducible refine wa_id ?_ | exact True.intro | omega | (rw [tab_len]; omega)))
                        refine V_cond (evs ?_)
                        refine ⟨fun hc => ?_, fun hc => ?_⟩
                        · refine V_regionX Γ Δ [122] [0, 1, 2, 3, 4, 6, 7, 8, 9, 10, 11, 12, 13, 14, 18, 24, 32, 55, 74, 79, 87, 95, 100, 106, 111] (evs ?_)
                          all_goals (try with_reducible (repeat' (first | apply And.intro | intro _)))
                          all_goals (try (first | with_reducible refine wa_id ?_ | exact True.intro | omega | (rw [tab_len]; omega)))
                          refine V_jn [] () (evs ?_) ?_
                          all_goals (try with_reducible (repeat' (first | apply And.intro | intro _)))
                          all_goals (first | exact True.intro | omega | (first | (simp [cm3, hc]; done)))
                        · refine WA_skip ?_
                          refine V_jn [] () (evs ?_) ?_
                          all_goals (try with_reducible (repeat' (first | apply And.intro | intro _)))
                          all_goals (first | exact True.intro | omega | (first | (simp [cm3, hc]; done)))
                      · intro _ _
                        refine V_cut (x := (fcd Try.f35 [1, 1, 1, 1, 1, 1, 0, 1, 0, 0, 1, 0, 0, 1, 1, 1, 1, 1, 1, 1, 1, 0])) (y := (fcd Try.f35 [1, 1, 1, 1, 1, 1, 0, 1, 0, 0, 1, 0, 0, 1, 1, 1, 1, 1, 1, 1, 1, 1])) (α := Unit) [14, 111] [] (fun _ => [(14, .dat (.i (cF a b how k)))]) (fun _ => []) (fun _ => True) ?_ ?_
                        · refine WA_seq (x := (fcd Try.f35 [1, 1, 1, 1, 1, 1, 0, 1, 0, 0, 1, 0, 0, 1, 1, 1, 1, 1, 1, 1, 1, 0, 0])) (y := (fcd Try.f35 [1, 1, 1, 1, 1, 1, 0, 1, 0, 0, 1, 0, 0, 1, 1, 1, 1, 1, 1, 1, 1, 0, 1])) ?_
                          refine V_regionX Γ Δ [122] [0, 1, 2, 3, 4, 6, 7, 8, 9, 10, 11, 12, 13, 14, 18, 24, 32, 55, 74, 79, 87, 95, 100, 106, 111] (evs ?_)
                          all_goals (try with_reducible (repeat' (first | apply And.intro | intro _)))
                          all_goals (try (first | with_reducible refine wa_id ?_ | exact True.intro | omega | (rw [tab_len]; omega)))
                          refine V_cond (evs ?_)
                          refine ⟨fun hc => ?_, fun hc => ?_⟩
                          · refine V_regionX Γ Δ [122] [0, 1, 2, 3, 4, 6, 7, 8, 9, 10, 11, 12, 13, 14, 18, 24, 32, 55, 74, 79, 87, 95, 100, 106, 111] (evs ?_)
                            have := oa k
                            have := ob k
                            simp (maxSteps := 10000000) (disch := omega) only [w64]
                            all_goals (try with_reducible (repeat' (first | apply And.intro | intro _)))
                            all_goals (try (first | with_reducible refine wa_id ?_ | exact True.intro | omega | (rw [tab_len]; omega)))
                            refine V_jn [] () (evs ?_) ?_
                            all_goals (try with_reducible (repeat' (first | apply And.intro | intro _)))
                            all_goals (first | exact True.intro | omega | (first | exact cmA hc | exact cmB hc))
                          · refine WA_skip ?_
                            refine V_jn [] () (evs ?_) ?_
                            all_goals (try with_reducible (repeat' (first | apply And.intro | intro _)))
                            all_goals (first | exact True.intro | omega | (first | exact cmA hc | exact cmB hc))
                        · intro _ _
                          refine V_regionX Γ Δ [122] [0, 1, 2, 3, 4, 6, 7, 8, 9, 10, 11, 12, 13, 14, 18, 24, 32, 55, 74, 79, 87, 95, 100, 106, 111] (evs ?_)
                          all_goals (try with_reducible (repeat' (first | apply And.intro | intro _)))
                          all_goals (try (first | with_reducible refine wa_id ?_ | exact True.intro | omega | (rw [tab_len]; omega)))
                          refine V_regionX Γ Δ [122] [0, 1, 2, 3, 4, 6, 7, 8, 9, 10, 11, 12, 13, 14, 18, 24, 32, 55, 74, 79, 87, 95, 100, 106, 111] (evs ?_)
                          all_goals (try with_reducible (repeat' (first | apply And.intro | intro _)))
                          all_goals (try (first | with_reducible refine wa_id ?_ | exact True.intro | omega | (rw [tab_len]; omega)))
                          refine V_next [(20000, some 123)] (k + 1) (evs ?_) ?_ ?_
                          all_goals (try with_reducible (repeat' (first | apply And.intro | intro _)))
                          all_goals (first | exact True.intro | omega | (first | exact w64l (n := 65536) (by omega) (by omega) | exact tab_app rfl))
            · refine V_exit (evs ?_)
              refine WA_seq (x := (fcd Try.f35 [1, 1, 1, 1, 1, 1, 1, 0])) (y := (fcd Try.f35 [1, 1, 1, 1, 1, 1, 1, 1])) ?_
              refine V_regionX Γ Δ [122] [0, 1, 2, 3, 4, 6, 7, 8, 9, 10, 11, 12, 13, 14, 18, 24, 32, 55, 74, 79, 87, 95, 100, 106, 111] (evs ?_)
              all_goals (try with_reducible (repeat' (first | apply And.intro | intro _)))
              all_goals (try (first | with_reducible refine wa_id ?_ | exact True.intro | omega | (rw [tab_len]; omega)))
              refine V_ret (evs ?_)
              first | exact bk0 _ (cb1 hc) | exact bk0 _ (cb2 ‹_› hc) | exact bk0 _ (cb3 ‹_› ‹_› hc) | exact bk0 _ (cb5r ha hb hw ⟨hc.1.1, hc.1.2, hc.2⟩) | exact bk _ (cb6r ha hb hw hn (by omega))

end Go.S23

