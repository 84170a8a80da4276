import Derived.Test.YtnbeigcjhpldmaaA1
import Derived.Test.YtnbeigcjhpldmaaR6
set_option linter.unusedSimpArgs false
set_option linter.unusedVariables false
set_option linter.unusedSimpArgs false
set_option linter.unusedVariables false
namespace Go.S03
open Go.RowKit Go.Proofs Go.Eng Go.Rect
set_option maxHeartbeats 4000000 in
set_option maxRecDepth 100000 in
/-- imageeditor/imageeditorref03.Right -/
theorem rright_fn (a : List Rc) : Eng.Fn Try.prog 14 [.sl 4 (a.map rcC)] (.dat (.b (rightB a))) := by
  refine Eng.Fn.by (fn := Try.f14) 112 [.tmp 2] Try.func14 rfl Try.ntmps14 rfl (by simp) fun w0 G0 => ?_
  refine WA_seq (x := (fcd Try.f14 [0])) (y := (fcd Try.f14 [1])) ?_
  refine V_regionX Γ Δ [] [0, 2, 3, 4, 5, 6, 8, 9, 10, 24, 51, 68, 100] (evs ?_)
  all_goals (try with_reducible (repeat' (first | apply And.intro | intro _)))
  all_goals (try (first | with_reducible refine wa_id ?_ | exact True.intro | omega | exact rvalid_fn ⟨_, _, _, _⟩ | exact rempty_fn ⟨_, _, _, _⟩ | exact joined_fn _ _ (band_wd hI).2 (band_wd hI).1))
  refine WA_seq (x := (fcd Try.f14 [1, 0])) (y := (fcd Try.f14 [1, 1])) ?_
  refine V_regionX Γ Δ [] [0, 2, 3, 4, 5, 6, 8, 9, 10, 24, 51, 68, 100] (evs ?_)
  all_goals (try with_reducible (repeat' (first | apply And.intro | intro _)))
  all_goals (try (first | with_reducible refine wa_id ?_ | exact True.intro | omega | exact rvalid_fn ⟨_, _, _, _⟩ | exact rempty_fn ⟨_, _, _, _⟩ | exact joined_fn _ _ (band_wd hI).2 (band_wd hI).1))
  refine WA_seq (x := (fcd Try.f14 [1, 1, 0])) (y := (fcd Try.f14 [1, 1, 1])) ?_
  refine WA_seq (x := (fcd Try.f14 [1, 1, 0, 0])) (y := (fcd Try.f14 [1, 1, 0, 1])) ?_
  refine V_regionX Γ Δ [] [0, 2, 3, 4, 5, 6, 8, 9, 10, 24, 51, 68, 100] (evs ?_)
  all_goals (try with_reducible (repeat' (first | apply And.intro | intro _)))
  all_goals (try (first | with_reducible refine wa_id ?_ | exact True.intro | omega | exact rvalid_fn ⟨_, _, _, _⟩ | exact rempty_fn ⟨_, _, _, _⟩ | exact joined_fn _ _ (band_wd hI).2 (band_wd hI).1))
  refine WA_block (c := (fcd Try.f14 [1, 1, 0, 1, 0])) ?_
  refine V_loop (c := (fcd Try.f14 [1, 1, 0, 1, 0, 0])) (α := Nat) [2, 3, 4, 5, 6, 9, 10, 24, 51, 68, 100] [6, 74, 75, 106, 11600, 11601, 11602, 11603, 12300, 12301, 12302, 12303, 19900, 19901, 19902, 19903] (fun k => [(9, .dat (.i (k : Int))), (3, .vw 20000 0 (rbf a k).length 4), (4, .vw 20001 0 (rbd a k).length 4)]) (fun k => [(20000, some (true, .arr 33 4 ((rbf a k).map rcC))), (20001, some (true, .arr 33 4 ((rbd a k).map rcC)))]) (fun k => RI a k) (fun k => a.length - k) 0 [(20000, none), (20001, none)] ?_ (evs ?_) ?_
  · exact ri_0 a
  · (try with_reducible (repeat' (first | apply And.intro | intro _)))
    all_goals (first | exact True.intro | omega | (first | rfl))
  · intro k hI
    refine WA_seq (x := (fcd Try.f14 [1, 1, 0, 1, 0, 0, 0])) (y := (fcd Try.f14 [1, 1, 0, 1, 0, 0, 1])) ?_
    refine V_regionX Γ Δ [] [0, 2, 3, 4, 5, 6, 8, 9, 10, 24, 51, 68, 100] (evs ?_)
    all_goals (try with_reducible (repeat' (first | apply And.intro | intro _)))
    all_goals (try (first | with_reducible refine wa_id ?_ | exact True.intro | omega | exact rvalid_fn ⟨_, _, _, _⟩ | exact rempty_fn ⟨_, _, _, _⟩ | exact joined_fn _ _ (band_wd hI).2 (band_wd hI).1))
    refine WA_seq (x := (fcd Try.f14 [1, 1, 0, 1, 0, 0, 1, 0])) (y := (fcd Try.f14 [1, 1, 0, 1, 0, 0, 1, 1])) ?_
    refine V_cond (evs ?_)
    refine ⟨fun hc => ?_, fun hc => ?_⟩
    · refine WA_skip ?_
      refine WA_seq (x := (fcd Try.f14 [1, 1, 0, 1, 0, 0, 1, 1, 0])) (y := (fcd Try.f14 [1, 1, 0, 1, 0, 0, 1, 1, 1])) ?_
      refine WA_block (c := (fcd Try.f14 [1, 1, 0, 1, 0, 0, 1, 1, 0, 0])) ?_
      refine WA_seq (x := (fcd Try.f14 [1, 1, 0, 1, 0, 0, 1, 1, 0, 0, 0])) (y := (fcd Try.f14 [1, 1, 0, 1, 0, 0, 1, 1, 0, 0, 1])) ?_
      refine V_regionX Γ Δ [] [0, 2, 3, 4, 5, 6, 8, 9, 10, 24, 51, 68, 100] (evs ?_)
      all_goals (try with_reducible (repeat' (first | apply And.intro | intro _)))
      all_goals (try (first | with_reducible refine wa_id ?_ | exact True.intro | omega | exact rvalid_fn ⟨_, _, _, _⟩ | exact rempty_fn ⟨_, _, _, _⟩ | exact joined_fn _ _ (band_wd hI).2 (band_wd hI).1))
      have hbl := band_le hI
      have hbn := rbd_len hI
      refine WA_seq (x := (fcd Try.f14 [1, 1, 0, 1, 0, 0, 1, 1, 0, 0, 1, 0])) (y := (fcd Try.f14 [1, 1, 0, 1, 0, 0, 1, 1, 0, 0, 1, 1])) ?_
      refine WA_seq (x := (fcd Try.f14 [1, 1, 0, 1, 0, 0, 1, 1, 0, 0, 1, 0, 0])) (y := (fcd Try.f14 [1, 1, 0, 1, 0, 0, 1, 1, 0, 0, 1, 0, 1])) ?_
      refine V_regionX Γ Δ [] [0, 2, 3, 4, 5, 6, 8, 9, 10, 24, 51, 68, 100] (evs ?_)
      all_goals (try with_reducible (repeat' (first | apply And.intro | intro _)))
      all_goals (try (first | with_reducible refine wa_id ?_ | exact True.intro | exact rvalid_fn _ | exact rempty_fn _ | omega | exact rvalid_fn ⟨_, _, _, _⟩ | exact rempty_fn ⟨_, _, _, _⟩ | exact joined_fn _ _ (band_wd hI).2 (band_wd hI).1))
      refine V_cond (evs ?_)
      refine ⟨fun hc => ?_, fun hc => ?_⟩
      · refine WA_seq (x := (fcd Try.f14 [1, 1, 0, 1, 0, 0, 1, 1, 0, 0, 1, 0, 1, 0, 0])) (y := (fcd Try.f14 [1, 1, 0, 1, 0, 0, 1, 1, 0, 0, 1, 0, 1, 0, 1])) ?_
        refine V_regionX Γ Δ [] [0, 2, 3, 4, 5, 6, 8, 9, 10, 24, 51, 68, 100] (evs ?_)
        all_goals (try with_reducible (repeat' (first | apply And.intro | intro _)))
        all_goals (try (first | with_reducible refine wa_id ?_ | exact True.intro | omega | exact rvalid_fn ⟨_, _, _, _⟩ | exact rempty_fn ⟨_, _, _, _⟩ | exact joined_fn _ _ (band_wd hI).2 (band_wd hI).1))
        refine V_ret (evs ?_)
        first | exact True.intro | rfl | exact rg_bad ‹_› (emp_t2 hc) | exact rgA hI ‹(k : Int) < _› ‹_› hc | exact rgC2 hI ‹(k : Int) < _› hq1 ‹_› hc | exact rgE hI ‹_›
      · refine WA_skip ?_
        refine WA_seq (x := (fcd Try.f14 [1, 1, 0, 1, 0, 0, 1, 1, 0, 0, 1, 1, 0])) (y := (fcd Try.f14 [1, 1, 0, 1, 0, 0, 1, 1, 0, 0, 1, 1, 1])) ?_
        refine WA_seq (x := (fcd Try.f14 [1, 1, 0, 1, 0, 0, 1, 1, 0, 0, 1, 1, 0, 0])) (y := (fcd Try.f14 [1, 1, 0, 1, 0, 0, 1, 1, 0, 0, 1, 1, 0, 1])) ?_
        refine V_draw Γ [] [0, 2, 3, 4, 5, 6, 8, 9, 10, 24, 51, 68, 100] mixed (by kernel_rfl) (evs ?_)
        have hq1 := hc.2
        have hq := empty_spec.1 hq1
        have hb0 := wd_any (band_wd hI).1 0
        (try simp (maxSteps := 10000000) (disch := omega) only [w64, toNs, toNp1])
        all_goals (try with_reducible (repeat' (first | apply And.intro | intro _)))
        all_goals (try (first | with_reducible refine wa_id ?_ | exact True.intro | omega | exact rvalid_fn ⟨_, _, _, _⟩ | exact rempty_fn ⟨_, _, _, _⟩ | exact joined_fn _ _ (band_wd hI).2 (band_wd hI).1))
        refine V_cond (evs ?_)
        refine ⟨fun hc => ?_, fun hc => ?_⟩
        · refine WA_seq (x := (fcd Try.f14 [1, 1, 0, 1, 0, 0, 1, 1, 0, 0, 1, 1, 0, 1, 0, 0])) (y := (fcd Try.f14 [1, 1, 0, 1, 0, 0, 1, 1, 0, 0, 1, 1, 0, 1, 0, 1])) ?_
          refine V_regionX Γ Δ [] [0, 2, 3, 4, 5, 6, 8, 9, 10, 24, 51, 68, 100] (evs ?_)
          (try simp (maxSteps := 10000000) (disch := omega) only [w64, toNs, toNp1])
          all_goals (try with_reducible (repeat' (first | apply And.intro | intro _)))
          all_goals (try (first | with_reducible refine wa_id ?_ | exact True.intro | omega | exact rvalid_fn ⟨_, _, _, _⟩ | exact rempty_fn ⟨_, _, _, _⟩ | exact joined_fn _ _ (band_wd hI).2 (band_wd hI).1))
          refine WA_seq (x := (fcd Try.f14 [1, 1, 0, 1, 0, 0, 1, 1, 0, 0, 1, 1, 0, 1, 0, 1, 0])) (y := (fcd Try.f14 [1, 1, 0, 1, 0, 0, 1, 1, 0, 0, 1, 1, 0, 1, 0, 1, 1])) ?_
          refine WA_seq (x := (fcd Try.f14 [1, 1, 0, 1, 0, 0, 1, 1, 0, 0, 1, 1, 0, 1, 0, 1, 0, 0])) (y := (fcd Try.f14 [1, 1, 0, 1, 0, 0, 1, 1, 0, 0, 1, 1, 0, 1, 0, 1, 0, 1])) ?_
          refine V_draw Γ [] [0, 2, 3, 4, 5, 6, 8, 9, 10, 24, 51, 68, 100] mixed (by kernel_rfl) (evs ?_)
          have hb1 := wd_any (band_wd hI).1 ((rbd a k).length - 1)
          (try simp (maxSteps := 10000000) (disch := omega) only [w64, toNs, toNp1])
          all_goals (try with_reducible (repeat' (first | apply And.intro | intro _)))
          all_goals (try (first | with_reducible refine wa_id ?_ | exact True.intro | omega | exact rvalid_fn ⟨_, _, _, _⟩ | exact rempty_fn ⟨_, _, _, _⟩ | exact joined_fn _ _ (band_wd hI).2 (band_wd hI).1))
          refine V_cond (evs ?_)
          refine ⟨fun hc => ?_, fun hc => ?_⟩
          · refine WA_seq (x := (fcd Try.f14 [1, 1, 0, 1, 0, 0, 1, 1, 0, 0, 1, 1, 0, 1, 0, 1, 0, 1, 0, 0])) (y := (fcd Try.f14 [1, 1, 0, 1, 0, 0, 1, 1, 0, 0, 1, 1, 0, 1, 0, 1, 0, 1, 0, 1])) ?_
            refine V_regionX Γ Δ [] [0, 2, 3, 4, 5, 6, 8, 9, 10, 24, 51, 68, 100] (evs ?_)
            all_goals (try with_reducible (repeat' (first | apply And.intro | intro _)))
            all_goals (try (first | with_reducible refine wa_id ?_ | exact True.intro | omega | exact rvalid_fn ⟨_, _, _, _⟩ | exact rempty_fn ⟨_, _, _, _⟩ | exact joined_fn _ _ (band_wd hI).2 (band_wd hI).1))
            refine V_ret (evs ?_)
            first | exact True.intro | rfl | exact rg_bad ‹_› (emp_t2 hc) | exact rgA hI ‹(k : Int) < _› ‹_› hc | exact rgC2 hI ‹(k : Int) < _› hq1 ‹_› hc | exact rgE hI ‹_›
          · refine WA_skip ?_
            refine WA_seq (x := (fcd Try.f14 [1, 1, 0, 1, 0, 0, 1, 1, 0, 0, 1, 1, 0, 1, 0, 1, 1, 0])) (y := (fcd Try.f14 [1, 1, 0, 1, 0, 0, 1, 1, 0, 0, 1, 1, 0, 1, 0, 1, 1, 1])) ?_
            refine V_regionX Γ Δ [] [0, 2, 3, 4, 5, 6, 8, 9, 10, 24, 51, 68, 100] (evs ?_)
            all_goals (try with_reducible (repeat' (first | apply And.intro | intro _)))
            all_goals (try (first | with_reducible refine wa_id ?_ | exact True.intro | omega | exact rvalid_fn ⟨_, _, _, _⟩ | exact rempty_fn ⟨_, _, _, _⟩ | exact joined_fn _ _ (band_wd hI).2 (band_wd hI).1))
            refine V_exit (evs ?_)
            refine V_regionX Γ Δ [] [0, 2, 3, 4, 5, 6, 8, 9, 10, 24, 51, 68, 100] (evs ?_)
            all_goals (try with_reducible (repeat' (first | apply And.intro | intro _)))
            all_goals (try (first | with_reducible refine wa_id ?_ | exact True.intro | omega | exact rvalid_fn ⟨_, _, _, _⟩ | exact rempty_fn ⟨_, _, _, _⟩ | exact joined_fn _ _ (band_wd hI).2 (band_wd hI).1))
            refine V_next [(20001, some 75)] (k + 1) (evs ?_) ?_ ?_
            all_goals (try with_reducible (repeat' (first | apply And.intro | intro _)))
            all_goals (first | exact True.intro | omega | (first | exact w64l ‹(k : Int) < _› ‹a.length ≤ 281474976710656› | exact (rgB hI ‹(k : Int) < _› hq1 ‹_› (by omega)).1 | exact (rgD2 hI ‹(k : Int) < _› hq1 ‹_› hc).1 | (rw [(rgB hI ‹(k : Int) < _› hq1 ‹_› (by omega)).2.1]; done) | (rw [(rgB hI ‹(k : Int) < _› hq1 ‹_› (by omega)).2.2, List.map_append]; rfl) | (rw [(rgB hI ‹(k : Int) < _› hq1 ‹_› (by omega)).2.2, List.length_append]; rfl) | (rw [(rgD2 hI ‹(k : Int) < _› hq1 ‹_› hc).2.1]; done) | (rw [(rgD2 hI ‹(k : Int) < _› hq1 ‹_› hc).2.2]; rfl)))
        · refine WA_skip ?_
          refine WA_seq (x := (fcd Try.f14 [1, 1, 0, 1, 0, 0, 1, 1, 0, 0, 1, 1, 1, 0])) (y := (fcd Try.f14 [1, 1, 0, 1, 0, 0, 1, 1, 0, 0, 1, 1, 1, 1])) ?_
          refine WA_seq (x := (fcd Try.f14 [1, 1, 0, 1, 0, 0, 1, 1, 0, 0, 1, 1, 1, 0, 0])) (y := (fcd Try.f14 [1, 1, 0, 1, 0, 0, 1, 1, 0, 0, 1, 1, 1, 0, 1])) ?_
          refine V_draw Γ [] [0, 2, 3, 4, 5, 6, 8, 9, 10, 24, 51, 68, 100] mixed (by kernel_rfl) (evs ?_)
          (try simp (maxSteps := 10000000) (disch := omega) only [w64, toNs, toNp1])
          all_goals (try with_reducible (repeat' (first | apply And.intro | intro _)))
          all_goals (try (first | with_reducible refine wa_id ?_ | exact True.intro | exact joined_fn _ _ (by assumption) (by assumption) | omega | exact rvalid_fn ⟨_, _, _, _⟩ | exact rempty_fn ⟨_, _, _, _⟩ | exact joined_fn _ _ (band_wd hI).2 (band_wd hI).1))
          refine V_cond (evs ?_)
          refine ⟨fun hc => ?_, fun hc => ?_⟩
          · refine WA_seq (x := (fcd Try.f14 [1, 1, 0, 1, 0, 0, 1, 1, 0, 0, 1, 1, 1, 0, 1, 0, 0])) (y := (fcd Try.f14 [1, 1, 0, 1, 0, 0, 1, 1, 0, 0, 1, 1, 1, 0, 1, 0, 1])) ?_
            refine V_regionX Γ Δ [] [0, 2, 3, 4, 5, 6, 8, 9, 10, 24, 51, 68, 100] (evs ?_)
            all_goals (try with_reducible (repeat' (first | apply And.intro | intro _)))
            all_goals (try (first | with_reducible refine wa_id ?_ | exact True.intro | omega | exact rvalid_fn ⟨_, _, _, _⟩ | exact rempty_fn ⟨_, _, _, _⟩ | exact joined_fn _ _ (band_wd hI).2 (band_wd hI).1))
            refine V_ret (evs ?_)
            first | exact True.intro | rfl | exact rg_bad ‹_› (emp_t2 hc) | exact rgA hI ‹(k : Int) < _› ‹_› hc | exact rgC2 hI ‹(k : Int) < _› hq1 ‹_› hc | exact rgE hI ‹_›
          · refine WA_skip ?_
            refine V_draw Γ [] [0, 2, 3, 4, 5, 6, 8, 9, 10, 24, 51, 68, 100] mixed (by kernel_rfl) (evs ?_)
            all_goals (try with_reducible (repeat' (first | apply And.intro | intro _)))
            all_goals (try (first | with_reducible refine wa_id ?_ | exact True.intro | omega | exact rvalid_fn ⟨_, _, _, _⟩ | exact rempty_fn ⟨_, _, _, _⟩ | exact joined_fn _ _ (band_wd hI).2 (band_wd hI).1))
            refine V_regionX Γ Δ [] [0, 2, 3, 4, 5, 6, 8, 9, 10, 24, 51, 68, 100] (evs ?_)
            all_goals (try with_reducible (repeat' (first | apply And.intro | intro _)))
            all_goals (try (first | with_reducible refine wa_id ?_ | exact True.intro | omega | exact rvalid_fn ⟨_, _, _, _⟩ | exact rempty_fn ⟨_, _, _, _⟩ | exact joined_fn _ _ (band_wd hI).2 (band_wd hI).1))
            refine V_next [(20000, some 20001), (20001, some 106)] (k + 1) (evs ?_) ?_ ?_
            all_goals (try with_reducible (repeat' (first | apply And.intro | intro _)))
            all_goals (first | exact True.intro | omega | (first | exact w64l ‹(k : Int) < _› ‹a.length ≤ 281474976710656› | exact (rgB hI ‹(k : Int) < _› hq1 ‹_› (by omega)).1 | exact (rgD2 hI ‹(k : Int) < _› hq1 ‹_› hc).1 | (rw [(rgB hI ‹(k : Int) < _› hq1 ‹_› (by omega)).2.1]; done) | (rw [(rgB hI ‹(k : Int) < _› hq1 ‹_› (by omega)).2.2, List.map_append]; rfl) | (rw [(rgB hI ‹(k : Int) < _› hq1 ‹_› (by omega)).2.2, List.length_append]; rfl) | (rw [(rgD2 hI ‹(k : Int) < _› hq1 ‹_› hc).2.1]; done) | (rw [(rgD2 hI ‹(k : Int) < _› hq1 ‹_› hc).2.2]; rfl)))
    · refine V_exit (evs ?_)
      refine WA_seq (x := (fcd Try.f14 [1, 1, 1, 0])) (y := (fcd Try.f14 [1, 1, 1, 1])) ?_
      refine V_regionX Γ Δ [] [0, 2, 3, 4, 5, 6, 8, 9, 10, 24, 51, 68, 100] (evs ?_)
      all_goals (try with_reducible (repeat' (first | apply And.intro | intro _)))
      all_goals (try (first | with_reducible refine wa_id ?_ | exact True.intro | exact joined_fn _ _ (by assumption) (by assumption) | omega | exact rvalid_fn ⟨_, _, _, _⟩ | exact rempty_fn ⟨_, _, _, _⟩ | exact joined_fn _ _ (band_wd hI).2 (band_wd hI).1))
      refine V_ret (evs ?_)
      first | exact True.intro | rfl | exact rg_bad ‹_› (emp_t2 hc) | exact rgA hI ‹(k : Int) < _› ‹_› hc | exact rgC2 hI ‹(k : Int) < _› hq1 ‹_› hc | exact rgE hI ‹_›

end Go.S03

