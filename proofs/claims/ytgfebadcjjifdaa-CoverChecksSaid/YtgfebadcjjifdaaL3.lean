import Derived.Test.YtgfebadcjjifdaaA15
namespace Go.S20
open Go.RowKit Go.Proofs Go.Eng Go.Rect
/-- imageeditor/imageeditorlaw20.CoverChecks -/
theorem l_checks (ps : List (List Pt)) (rule : Int) : Eng.Fn Try.prog 3 [.sl 1 (ps.map plyC), .i rule] (.dat (.b true)) := by
  refine Eng.Fn.by (fn := Try.f3) 37 [.tmp 4] Try.func3 rfl Try.ntmps3 rfl (by simp) fun w0 => ?_
  refine WA_seq (x := (fcd Try.f3 [0])) (y := (fcd Try.f3 [1])) ?_
  refine V_regionX Γ Δ [] [0, 1, 4, 6, 24, 25, 26, 27, 28, 35] (evs ?_)
  all_goals (try with_reducible (repeat' (first | apply And.intro | intro _)))
  all_goals (try (first | with_reducible refine wa_id ?_ | exact True.intro | omega))
  refine WA_seq (x := (fcd Try.f3 [1, 0])) (y := (fcd Try.f3 [1, 1])) ?_
  refine WA_seq (x := (fcd Try.f3 [1, 0, 0])) (y := (fcd Try.f3 [1, 0, 1])) ?_
  refine V_regionX Γ Δ [] [0, 1, 4, 6, 24, 25, 26, 27, 28, 35] (evs ?_)
  all_goals (try with_reducible (repeat' (first | apply And.intro | intro _)))
  all_goals (try (first | with_reducible refine wa_id ?_ | exact True.intro | exact awake_fn | exact ccheck_fn _ _ | exact rcheck_fn _ _ | exact cbox_fn _ | exact rbox_fn _ | omega))
  refine V_cond (evs ?_)
  refine ⟨fun hc => hc.elim, ?_⟩
  refine WA_skip ?_
  refine WA_seq (x := (fcd Try.f3 [1, 1, 0])) (y := (fcd Try.f3 [1, 1, 1])) ?_
  refine WA_seq (x := (fcd Try.f3 [1, 1, 0, 0])) (y := (fcd Try.f3 [1, 1, 0, 1])) ?_
  refine V_regionX Γ Δ [] [0, 1, 4, 6, 24, 25, 26, 27, 28, 35] (evs ?_)
  all_goals (try with_reducible (repeat' (first | apply And.intro | intro _)))
  all_goals (try (first | with_reducible refine wa_id ?_ | exact True.intro | omega))
  refine WA_block (c := (fcd Try.f3 [1, 1, 0, 1, 0])) ?_
  refine V_loop (c := (fcd Try.f3 [1, 1, 0, 1, 0, 0])) (α := Nat) [4, 6, 27, 28, 35] [13200, 13201, 13202, 13203, 13400, 13401, 13402, 13403] (fun k => [(27, .dat (.i (k : Int)))]) (fun k => []) (fun k => k ≤ ps.length) (fun k => ps.length - k) 0 [] ?_ (evs ?_) ?_
  · exact Nat.zero_le _
  · (try with_reducible (repeat' (first | apply And.intro | intro _)))
    all_goals (first | exact True.intro | omega | (first | rfl))
  · intro k hI
    refine WA_seq (x := (fcd Try.f3 [1, 1, 0, 1, 0, 0, 0])) (y := (fcd Try.f3 [1, 1, 0, 1, 0, 0, 1])) ?_
    refine V_regionX Γ Δ [] [0, 1, 4, 6, 24, 25, 26, 27, 28, 35] (evs ?_)
    all_goals (try with_reducible (repeat' (first | apply And.intro | intro _)))
    all_goals (try (first | with_reducible refine wa_id ?_ | exact True.intro | omega))
    refine WA_seq (x := (fcd Try.f3 [1, 1, 0, 1, 0, 0, 1, 0])) (y := (fcd Try.f3 [1, 1, 0, 1, 0, 0, 1, 1])) ?_
    refine V_cond (evs ?_)
    refine ⟨fun hc => ?_, fun hc => ?_⟩
    · refine WA_skip ?_
      refine WA_seq (x := (fcd Try.f3 [1, 1, 0, 1, 0, 0, 1, 1, 0])) (y := (fcd Try.f3 [1, 1, 0, 1, 0, 0, 1, 1, 1])) ?_
      refine WA_block (c := (fcd Try.f3 [1, 1, 0, 1, 0, 0, 1, 1, 0, 0])) ?_
      refine WA_seq (x := (fcd Try.f3 [1, 1, 0, 1, 0, 0, 1, 1, 0, 0, 0])) (y := (fcd Try.f3 [1, 1, 0, 1, 0, 0, 1, 1, 0, 0, 1])) ?_
      refine V_regionX Γ Δ [] [0, 1, 4, 6, 24, 25, 26, 27, 28, 35] (evs ?_)
      all_goals (try with_reducible (repeat' (first | apply And.intro | intro _)))
      all_goals (try (first | with_reducible refine wa_id ?_ | exact True.intro | omega))
      refine WA_seq (x := (fcd Try.f3 [1, 1, 0, 1, 0, 0, 1, 1, 0, 0, 1, 0])) (y := (fcd Try.f3 [1, 1, 0, 1, 0, 0, 1, 1, 0, 0, 1, 1])) ?_
      refine V_regionX Γ Δ [] [0, 1, 4, 6, 24, 25, 26, 27, 28, 35] (evs ?_)
      all_goals (try with_reducible (repeat' (first | apply And.intro | intro _)))
      all_goals (try (first | with_reducible refine wa_id ?_ | exact True.intro | exact ctwice_fn _ | exact rtwice_fn _ | omega))
      refine V_cond (evs ?_)
      refine ⟨fun hc => hc.elim, ?_⟩
      refine WA_skip ?_
      refine V_regionX Γ Δ [] [0, 1, 4, 6, 24, 25, 26, 27, 28, 35] (evs ?_)
      all_goals (try with_reducible (repeat' (first | apply And.intro | intro _)))
      all_goals (try (first | with_reducible refine wa_id ?_ | exact True.intro | omega))
      refine V_next [] (k + 1) (evs ?_) ?_ ?_
      all_goals (try with_reducible (repeat' (first | apply And.intro | intro _)))
      all_goals (first | exact True.intro | omega | (first | exact w64l ‹(k : Int) < _› ‹ps.length ≤ 281474976710656›))
    · refine V_exit (evs ?_)
      refine WA_seq (x := (fcd Try.f3 [1, 1, 1, 0])) (y := (fcd Try.f3 [1, 1, 1, 1])) ?_
      refine V_regionX Γ Δ [] [0, 1, 4, 6, 24, 25, 26, 27, 28, 35] (evs ?_)
      all_goals (try with_reducible (repeat' (first | apply And.intro | intro _)))
      all_goals (try (first | with_reducible refine wa_id ?_ | exact True.intro | omega))
      refine V_ret (evs ?_)
      first | exact True.intro

end Go.S20

