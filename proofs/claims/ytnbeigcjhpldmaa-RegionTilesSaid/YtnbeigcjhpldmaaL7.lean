import Derived.Test.YtnbeigcjhpldmaaL0
import Derived.Test.YtnbeigcjhpldmaaMC
set_option linter.unusedSimpArgs false
set_option linter.unusedVariables false
set_option linter.unusedSimpArgs false
set_option linter.unusedVariables false
namespace Go.S03
open Go.RowKit Go.Proofs Go.Eng Go.Rect
set_option maxHeartbeats 8000000 in
set_option maxRecDepth 100000 in
/-- imageeditor/imageeditorlaw03.RegionTiles -/
theorem rtiles_fn (a : List Rc) (p : Pt) : Eng.Fn Try.prog 9 [.sl 4 (a.map rcC), ptD p] (.dat (.b true)) := by
  refine Eng.Fn.by (fn := Try.f9) 97 [.tmp 4] Try.func9 rfl Try.ntmps9 rfl (by simp) fun w0 G0 => ?_
  refine WA_seq (x := (fcd Try.f9 [0])) (y := (fcd Try.f9 [1])) ?_
  refine V_regionX Γ Δ [] [0, 1, 3, 4, 5, 6, 7, 8, 9, 19, 24, 25, 26, 38, 82, 85] (evs ?_)
  all_goals (try with_reducible (repeat' (first | apply And.intro | intro _)))
  all_goals (try (first | with_reducible refine wa_id ?_ | exact True.intro | omega | exact box3_fn _ | exact tiles3_fn _ | exact oftile_fn ⟨_, _⟩ | exact common_fn _ [⟨_, _, _, _⟩] | exact has_fn ⟨_, _, _, _⟩ ⟨_, _⟩ | exact has3_fn _ ⟨_, _⟩ | exact awake_fn))
  refine WA_seq (x := (fcd Try.f9 [1, 0])) (y := (fcd Try.f9 [1, 1])) ?_
  refine V_regionX Γ Δ [] [0, 1, 3, 4, 5, 6, 7, 8, 9, 19, 24, 25, 26, 38, 82, 85] (evs ?_)
  all_goals (try with_reducible (repeat' (first | apply And.intro | intro _)))
  all_goals (try (first | with_reducible refine wa_id ?_ | exact True.intro | exact box3_fn _ | omega | exact box3_fn _ | exact tiles3_fn _ | exact oftile_fn ⟨_, _⟩ | exact common_fn _ [⟨_, _, _, _⟩] | exact has_fn ⟨_, _, _, _⟩ ⟨_, _⟩ | exact has3_fn _ ⟨_, _⟩ | exact awake_fn))
  refine WA_seq (x := (fcd Try.f9 [1, 1, 0])) (y := (fcd Try.f9 [1, 1, 1])) ?_
  refine WA_seq (x := (fcd Try.f9 [1, 1, 0, 0])) (y := (fcd Try.f9 [1, 1, 0, 1])) ?_
  refine V_regionX Γ Δ [] [0, 1, 3, 4, 5, 6, 7, 8, 9, 19, 24, 25, 26, 38, 82, 85] (evs ?_)
  all_goals (try with_reducible (repeat' (first | apply And.intro | intro _)))
  all_goals (try (first | with_reducible refine wa_id ?_ | exact True.intro | omega | exact box3_fn _ | exact tiles3_fn _ | exact oftile_fn ⟨_, _⟩ | exact common_fn _ [⟨_, _, _, _⟩] | exact has_fn ⟨_, _, _, _⟩ ⟨_, _⟩ | exact has3_fn _ ⟨_, _⟩ | exact awake_fn))
  refine V_cond (evs ?_)
  refine ⟨fun hc => ?_, fun hc => ?_⟩
  · refine WA_seq (x := (fcd Try.f9 [1, 1, 0, 1, 0, 0])) (y := (fcd Try.f9 [1, 1, 0, 1, 0, 1])) ?_
    refine V_regionX Γ Δ [] [0, 1, 3, 4, 5, 6, 7, 8, 9, 19, 24, 25, 26, 38, 82, 85] (evs ?_)
    all_goals (try with_reducible (repeat' (first | apply And.intro | intro _)))
    all_goals (try (first | with_reducible refine wa_id ?_ | exact True.intro | exact awake_fn | omega | exact box3_fn _ | exact tiles3_fn _ | exact oftile_fn ⟨_, _⟩ | exact common_fn _ [⟨_, _, _, _⟩] | exact has_fn ⟨_, _, _, _⟩ ⟨_, _⟩ | exact has3_fn _ ⟨_, _⟩ | exact awake_fn))
    refine V_ret (evs ?_)
    first | exact True.intro | rfl | exact tz_1 ‹(k : Int) < _› hc | exact tz_2 ‹(k : Int) < _› hc | exact tz_3 ‹_› hI hc
  · refine WA_skip ?_
    refine WA_seq (x := (fcd Try.f9 [1, 1, 1, 0])) (y := (fcd Try.f9 [1, 1, 1, 1])) ?_
    refine V_regionX Γ Δ [] [0, 1, 3, 4, 5, 6, 7, 8, 9, 19, 24, 25, 26, 38, 82, 85] (evs ?_)
    all_goals (try with_reducible (repeat' (first | apply And.intro | intro _)))
    all_goals (try (first | with_reducible refine wa_id ?_ | exact True.intro | exact tiles3_fn _ | omega | exact box3_fn _ | exact tiles3_fn _ | exact oftile_fn ⟨_, _⟩ | exact common_fn _ [⟨_, _, _, _⟩] | exact has_fn ⟨_, _, _, _⟩ ⟨_, _⟩ | exact has3_fn _ ⟨_, _⟩ | exact awake_fn))
    refine WA_seq (x := (fcd Try.f9 [1, 1, 1, 1, 0])) (y := (fcd Try.f9 [1, 1, 1, 1, 1])) ?_
    refine V_regionX Γ Δ [] [0, 1, 3, 4, 5, 6, 7, 8, 9, 19, 24, 25, 26, 38, 82, 85] (evs ?_)
    all_goals (try with_reducible (repeat' (first | apply And.intro | intro _)))
    all_goals (try (first | with_reducible refine wa_id ?_ | exact True.intro | omega | exact box3_fn _ | exact tiles3_fn _ | exact oftile_fn ⟨_, _⟩ | exact common_fn _ [⟨_, _, _, _⟩] | exact has_fn ⟨_, _, _, _⟩ ⟨_, _⟩ | exact has3_fn _ ⟨_, _⟩ | exact awake_fn))
    refine WA_seq (x := (fcd Try.f9 [1, 1, 1, 1, 1, 0])) (y := (fcd Try.f9 [1, 1, 1, 1, 1, 1])) ?_
    refine WA_seq (x := (fcd Try.f9 [1, 1, 1, 1, 1, 0, 0])) (y := (fcd Try.f9 [1, 1, 1, 1, 1, 0, 1])) ?_
    refine V_regionX Γ Δ [] [0, 1, 3, 4, 5, 6, 7, 8, 9, 19, 24, 25, 26, 38, 82, 85] (evs ?_)
    all_goals (try with_reducible (repeat' (first | apply And.intro | intro _)))
    all_goals (try (first | with_reducible refine wa_id ?_ | exact True.intro | omega | exact box3_fn _ | exact tiles3_fn _ | exact oftile_fn ⟨_, _⟩ | exact common_fn _ [⟨_, _, _, _⟩] | exact has_fn ⟨_, _, _, _⟩ ⟨_, _⟩ | exact has3_fn _ ⟨_, _⟩ | exact awake_fn))
    refine WA_block (c := (fcd Try.f9 [1, 1, 1, 1, 1, 0, 1, 0])) ?_
    refine V_loop (c := (fcd Try.f9 [1, 1, 1, 1, 1, 0, 1, 0, 0])) (α := Nat) [4, 7, 8, 9, 25, 26, 38, 82, 85] [9, 35, 13200, 13201, 13202, 13203, 13600, 13601, 13602, 13603, 18500, 18501, 18502, 18503] (fun k => [(25, .dat (.i (k : Int))), (7, .dat (.b (fndB a p k)))]) (fun k => []) (fun k => k ≤ (tilesF a).length) (fun k => (tilesF a).length - k) 0 [] ?_ (evs ?_) ?_
    · exact Nat.zero_le _
    · (try with_reducible (repeat' (first | apply And.intro | intro _)))
      all_goals (first | exact True.intro | omega | (first | rfl))
    · intro k hI
      refine WA_seq (x := (fcd Try.f9 [1, 1, 1, 1, 1, 0, 1, 0, 0, 0])) (y := (fcd Try.f9 [1, 1, 1, 1, 1, 0, 1, 0, 0, 1])) ?_
      refine V_regionX Γ Δ [] [0, 1, 3, 4, 5, 6, 7, 8, 9, 19, 24, 25, 26, 38, 82, 85] (evs ?_)
      all_goals (try with_reducible (repeat' (first | apply And.intro | intro _)))
      all_goals (try (first | with_reducible refine wa_id ?_ | exact True.intro | omega | exact box3_fn _ | exact tiles3_fn _ | exact oftile_fn ⟨_, _⟩ | exact common_fn _ [⟨_, _, _, _⟩] | exact has_fn ⟨_, _, _, _⟩ ⟨_, _⟩ | exact has3_fn _ ⟨_, _⟩ | exact awake_fn))
      refine WA_seq (x := (fcd Try.f9 [1, 1, 1, 1, 1, 0, 1, 0, 0, 1, 0])) (y := (fcd Try.f9 [1, 1, 1, 1, 1, 0, 1, 0, 0, 1, 1])) ?_
      refine V_cond (evs ?_)
      refine ⟨fun hc => ?_, fun hc => ?_⟩
      · refine WA_skip ?_
        refine WA_seq (x := (fcd Try.f9 [1, 1, 1, 1, 1, 0, 1, 0, 0, 1, 1, 0])) (y := (fcd Try.f9 [1, 1, 1, 1, 1, 0, 1, 0, 0, 1, 1, 1])) ?_
        refine WA_block (c := (fcd Try.f9 [1, 1, 1, 1, 1, 0, 1, 0, 0, 1, 1, 0, 0])) ?_
        refine WA_seq (x := (fcd Try.f9 [1, 1, 1, 1, 1, 0, 1, 0, 0, 1, 1, 0, 0, 0])) (y := (fcd Try.f9 [1, 1, 1, 1, 1, 0, 1, 0, 0, 1, 1, 0, 0, 1])) ?_
        refine V_regionX Γ Δ [] [0, 1, 3, 4, 5, 6, 7, 8, 9, 19, 24, 25, 26, 38, 82, 85] (evs ?_)
        all_goals (try with_reducible (repeat' (first | apply And.intro | intro _)))
        all_goals (try (first | with_reducible refine wa_id ?_ | exact True.intro | omega | exact box3_fn _ | exact tiles3_fn _ | exact oftile_fn ⟨_, _⟩ | exact common_fn _ [⟨_, _, _, _⟩] | exact has_fn ⟨_, _, _, _⟩ ⟨_, _⟩ | exact has3_fn _ ⟨_, _⟩ | exact awake_fn))
        refine WA_seq (x := (fcd Try.f9 [1, 1, 1, 1, 1, 0, 1, 0, 0, 1, 1, 0, 0, 1, 0])) (y := (fcd Try.f9 [1, 1, 1, 1, 1, 0, 1, 0, 0, 1, 1, 0, 0, 1, 1])) ?_
        refine V_regionX Γ Δ [] [0, 1, 3, 4, 5, 6, 7, 8, 9, 19, 24, 25, 26, 38, 82, 85] (evs ?_)
        all_goals (try with_reducible (repeat' (first | apply And.intro | intro _)))
        all_goals (try (first | with_reducible refine wa_id ?_ | exact True.intro | exact tileR_fn ⟨_, _⟩ | omega | exact box3_fn _ | exact tiles3_fn _ | exact oftile_fn ⟨_, _⟩ | exact common_fn _ [⟨_, _, _, _⟩] | exact has_fn ⟨_, _, _, _⟩ ⟨_, _⟩ | exact has3_fn _ ⟨_, _⟩ | exact awake_fn))
        refine WA_seq (x := (fcd Try.f9 [1, 1, 1, 1, 1, 0, 1, 0, 0, 1, 1, 0, 0, 1, 1, 0])) (y := (fcd Try.f9 [1, 1, 1, 1, 1, 0, 1, 0, 0, 1, 1, 0, 0, 1, 1, 1])) ?_
        refine WA_seq (x := (fcd Try.f9 [1, 1, 1, 1, 1, 0, 1, 0, 0, 1, 1, 0, 0, 1, 1, 0, 0])) (y := (fcd Try.f9 [1, 1, 1, 1, 1, 0, 1, 0, 0, 1, 1, 0, 0, 1, 1, 0, 1])) ?_
        refine V_regionX Γ Δ [] [0, 1, 3, 4, 5, 6, 7, 8, 9, 19, 24, 25, 26, 38, 82, 85] (evs ?_)
        all_goals (try with_reducible (repeat' (first | apply And.intro | intro _)))
        all_goals (try (first | with_reducible refine wa_id ?_ | exact True.intro | exact common_fn _ _ | omega | exact box3_fn _ | exact tiles3_fn _ | exact oftile_fn ⟨_, _⟩ | exact common_fn _ [⟨_, _, _, _⟩] | exact has_fn ⟨_, _, _, _⟩ ⟨_, _⟩ | exact has3_fn _ ⟨_, _⟩ | exact awake_fn))
        refine V_cond (evs ?_)
        refine ⟨fun hc => ?_, fun hc => ?_⟩
        · refine WA_seq (x := (fcd Try.f9 [1, 1, 1, 1, 1, 0, 1, 0, 0, 1, 1, 0, 0, 1, 1, 0, 1, 0, 0])) (y := (fcd Try.f9 [1, 1, 1, 1, 1, 0, 1, 0, 0, 1, 1, 0, 0, 1, 1, 0, 1, 0, 1])) ?_
          refine V_regionX Γ Δ [] [0, 1, 3, 4, 5, 6, 7, 8, 9, 19, 24, 25, 26, 38, 82, 85] (evs ?_)
          all_goals (try with_reducible (repeat' (first | apply And.intro | intro _)))
          all_goals (try (first | with_reducible refine wa_id ?_ | exact True.intro | omega | exact box3_fn _ | exact tiles3_fn _ | exact oftile_fn ⟨_, _⟩ | exact common_fn _ [⟨_, _, _, _⟩] | exact has_fn ⟨_, _, _, _⟩ ⟨_, _⟩ | exact has3_fn _ ⟨_, _⟩ | exact awake_fn))
          refine V_ret (evs ?_)
          first | exact True.intro | rfl | exact tz_1 ‹(k : Int) < _› hc | exact tz_2 ‹(k : Int) < _› hc | exact tz_3 ‹_› hI hc
        · refine WA_skip ?_
          refine WA_seq (x := (fcd Try.f9 [1, 1, 1, 1, 1, 0, 1, 0, 0, 1, 1, 0, 0, 1, 1, 1, 0])) (y := (fcd Try.f9 [1, 1, 1, 1, 1, 0, 1, 0, 0, 1, 1, 0, 0, 1, 1, 1, 1])) ?_
          refine WA_seq (x := (fcd Try.f9 [1, 1, 1, 1, 1, 0, 1, 0, 0, 1, 1, 0, 0, 1, 1, 1, 0, 0])) (y := (fcd Try.f9 [1, 1, 1, 1, 1, 0, 1, 0, 0, 1, 1, 0, 0, 1, 1, 1, 0, 1])) ?_
          refine V_draw Γ [] [0, 1, 3, 4, 5, 6, 7, 8, 9, 19, 24, 25, 26, 38, 82, 85] mixed (by kernel_rfl) (evs ?_)
          have htl := tilesF_len a
          (try simp (maxSteps := 10000000) (disch := omega) only [w64, toNs, toNp1])
          all_goals (try with_reducible (repeat' (first | apply And.intro | intro _)))
          all_goals (try (first | with_reducible refine wa_id ?_ | exact True.intro | omega | exact box3_fn _ | exact tiles3_fn _ | exact oftile_fn ⟨_, _⟩ | exact common_fn _ [⟨_, _, _, _⟩] | exact has_fn ⟨_, _, _, _⟩ ⟨_, _⟩ | exact has3_fn _ ⟨_, _⟩ | exact awake_fn))
          refine V_cond (evs ?_)
          refine ⟨fun hc => ?_, fun hc => ?_⟩
          · refine WA_seq (x := (fcd Try.f9 [1, 1, 1, 1, 1, 0, 1, 0, 0, 1, 1, 0, 0, 1, 1, 1, 0, 1, 0, 0])) (y := (fcd Try.f9 [1, 1, 1, 1, 1, 0, 1, 0, 0, 1, 1, 0, 0, 1, 1, 1, 0, 1, 0, 1])) ?_
            refine V_regionX Γ Δ [] [0, 1, 3, 4, 5, 6, 7, 8, 9, 19, 24, 25, 26, 38, 82, 85] (evs ?_)
            all_goals (try with_reducible (repeat' (first | apply And.intro | intro _)))
            all_goals (try (first | with_reducible refine wa_id ?_ | exact True.intro | omega | exact box3_fn _ | exact tiles3_fn _ | exact oftile_fn ⟨_, _⟩ | exact common_fn _ [⟨_, _, _, _⟩] | exact has_fn ⟨_, _, _, _⟩ ⟨_, _⟩ | exact has3_fn _ ⟨_, _⟩ | exact awake_fn))
            refine V_ret (evs ?_)
            first | exact True.intro | rfl | exact tz_1 ‹(k : Int) < _› hc | exact tz_2 ‹(k : Int) < _› hc | exact tz_3 ‹_› hI hc
          · refine WA_skip ?_
            refine WA_seq (x := (fcd Try.f9 [1, 1, 1, 1, 1, 0, 1, 0, 0, 1, 1, 0, 0, 1, 1, 1, 1, 0])) (y := (fcd Try.f9 [1, 1, 1, 1, 1, 0, 1, 0, 0, 1, 1, 0, 0, 1, 1, 1, 1, 1])) ?_
            refine V_regionX Γ Δ [] [0, 1, 3, 4, 5, 6, 7, 8, 9, 19, 24, 25, 26, 38, 82, 85] (evs ?_)
            all_goals (try with_reducible (repeat' (first | apply And.intro | intro _)))
            all_goals (try (first | with_reducible refine wa_id ?_ | exact True.intro | exact has_fn _ ⟨_, _⟩ | omega | exact box3_fn _ | exact tiles3_fn _ | exact oftile_fn ⟨_, _⟩ | exact common_fn _ [⟨_, _, _, _⟩] | exact has_fn ⟨_, _, _, _⟩ ⟨_, _⟩ | exact has3_fn _ ⟨_, _⟩ | exact awake_fn))
            refine V_cond (evs ?_)
            refine ⟨fun hc => ?_, fun hc => ?_⟩
            · refine V_regionX Γ Δ [] [0, 1, 3, 4, 5, 6, 7, 8, 9, 19, 24, 25, 26, 38, 82, 85] (evs ?_)
              all_goals (try with_reducible (repeat' (first | apply And.intro | intro _)))
              all_goals (try (first | with_reducible refine wa_id ?_ | exact True.intro | omega | exact box3_fn _ | exact tiles3_fn _ | exact oftile_fn ⟨_, _⟩ | exact common_fn _ [⟨_, _, _, _⟩] | exact has_fn ⟨_, _, _, _⟩ ⟨_, _⟩ | exact has3_fn _ ⟨_, _⟩ | exact awake_fn))
              refine V_regionX Γ Δ [] [0, 1, 3, 4, 5, 6, 7, 8, 9, 19, 24, 25, 26, 38, 82, 85] (evs ?_)
              all_goals (try with_reducible (repeat' (first | apply And.intro | intro _)))
              all_goals (try (first | with_reducible refine wa_id ?_ | exact True.intro | omega | exact box3_fn _ | exact tiles3_fn _ | exact oftile_fn ⟨_, _⟩ | exact common_fn _ [⟨_, _, _, _⟩] | exact has_fn ⟨_, _, _, _⟩ ⟨_, _⟩ | exact has3_fn _ ⟨_, _⟩ | exact awake_fn))
              refine V_next [] (k + 1) (evs ?_) ?_ ?_
              all_goals (try with_reducible (repeat' (first | apply And.intro | intro _)))
              all_goals (first | exact True.intro | omega | (first | exact w64n ‹(k : Int) < _› ‹_› | exact fnd_y hc | exact fnd_n hc))
            · refine WA_skip ?_
              refine V_regionX Γ Δ [] [0, 1, 3, 4, 5, 6, 7, 8, 9, 19, 24, 25, 26, 38, 82, 85] (evs ?_)
              all_goals (try with_reducible (repeat' (first | apply And.intro | intro _)))
              all_goals (try (first | with_reducible refine wa_id ?_ | exact True.intro | omega | exact box3_fn _ | exact tiles3_fn _ | exact oftile_fn ⟨_, _⟩ | exact common_fn _ [⟨_, _, _, _⟩] | exact has_fn ⟨_, _, _, _⟩ ⟨_, _⟩ | exact has3_fn _ ⟨_, _⟩ | exact awake_fn))
              refine V_next [] (k + 1) (evs ?_) ?_ ?_
              all_goals (try with_reducible (repeat' (first | apply And.intro | intro _)))
              all_goals (first | exact True.intro | omega | (first | exact w64n ‹(k : Int) < _› ‹_› | exact fnd_y hc | exact fnd_n hc))
      · refine V_exit (evs ?_)
        refine WA_seq (x := (fcd Try.f9 [1, 1, 1, 1, 1, 1, 0])) (y := (fcd Try.f9 [1, 1, 1, 1, 1, 1, 1])) ?_
        refine V_regionX Γ Δ [] [0, 1, 3, 4, 5, 6, 7, 8, 9, 19, 24, 25, 26, 38, 82, 85] (evs ?_)
        all_goals (try with_reducible (repeat' (first | apply And.intro | intro _)))
        all_goals (try (first | with_reducible refine wa_id ?_ | exact True.intro | exact has3_fn _ ⟨_, _⟩ | exact awake_fn | omega | exact box3_fn _ | exact tiles3_fn _ | exact oftile_fn ⟨_, _⟩ | exact common_fn _ [⟨_, _, _, _⟩] | exact has_fn ⟨_, _, _, _⟩ ⟨_, _⟩ | exact has3_fn _ ⟨_, _⟩ | exact awake_fn))
        refine V_ret (evs ?_)
        first | exact True.intro | rfl | exact tz_1 ‹(k : Int) < _› hc | exact tz_2 ‹(k : Int) < _› hc | exact tz_3 ‹_› hI hc

end Go.S03

