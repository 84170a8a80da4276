import Derived.Test.YtdillkdhpalgcaaB1
import Derived.Test.YtdillkdhpalgcaaA1
set_option linter.unusedSimpArgs false
set_option linter.unusedVariables false
set_option linter.unusedSimpArgs false
set_option linter.unusedVariables false
namespace Go.S16
open Go.RowKit Go.Proofs Go.Eng Go.Rect
/-- imageeditor/filter.Needs -/
theorem fneed_fn (k : Int) (ps : List Int) (r s : Rc) : Eng.Fn Try.prog 7 [.i k, .sl 1 (ps.map iC), rcD r, rcD s] (.tup [.dat (rcD (needR k ps r s)), .dat (.i (needE k ps r s))]) := by
  refine Eng.Fn.by (fn := Try.f7) 44 [.cell 8 24, .tmp 9] Try.func7 rfl Try.ntmps7 rfl (by simp) fun w0 G0 => ?_
  refine WA_seq (x := (fcd Try.f7 [0])) (y := (fcd Try.f7 [1])) ?_
  refine V_regionX Γ Δ [] [0, 1, 2, 3, 6, 7, 8, 9, 10, 15, 35] (evs ?_)
  all_goals (try with_reducible (repeat' (first | apply And.intro | intro _)))
  all_goals (try (first | with_reducible refine wa_id ?_ | exact True.intro | omega))
  refine WA_seq (x := (fcd Try.f7 [1, 0])) (y := (fcd Try.f7 [1, 1])) ?_
  refine WA_seq (x := (fcd Try.f7 [1, 0, 0])) (y := (fcd Try.f7 [1, 0, 1])) ?_
  refine V_regionX Γ Δ [] [0, 1, 2, 3, 6, 7, 8, 9, 10, 15, 35] (evs ?_)
  all_goals (try with_reducible (repeat' (first | apply And.intro | intro _)))
  all_goals (try (first | with_reducible refine wa_id ?_ | exact True.intro | exact fcheck_fn _ _ | omega))
  refine WA_seq (x := (fcd Try.f7 [1, 0, 1, 0])) (y := (fcd Try.f7 [1, 0, 1, 1])) ?_
  refine V_regionX Γ Δ [] [0, 1, 2, 3, 6, 7, 8, 9, 10, 15, 35] (evs ?_)
  all_goals (try with_reducible (repeat' (first | apply And.intro | intro _)))
  all_goals (try (first | with_reducible refine wa_id ?_ | exact True.intro | omega))
  refine V_cond (evs ?_)
  refine ⟨fun hc => ?_, fun hc => ?_⟩
  · refine WA_seq (x := (fcd Try.f7 [1, 0, 1, 1, 0, 0])) (y := (fcd Try.f7 [1, 0, 1, 1, 0, 1])) ?_
    refine V_regionX Γ Δ [] [0, 1, 2, 3, 6, 7, 8, 9, 10, 15, 35] (evs ?_)
    all_goals (try with_reducible (repeat' (first | apply And.intro | intro _)))
    all_goals (try (first | with_reducible refine wa_id ?_ | exact True.intro | omega))
    refine V_ret (evs ?_)
    first | exact nd1 hc | exact nd2 ‹_› (bad1 hc) | exact ⟨fe (nd3 ‹_› (bad0 hc)).1, (nd3 ‹_› (bad0 hc)).2⟩
  · refine WA_skip ?_
    refine WA_seq (x := (fcd Try.f7 [1, 1, 0])) (y := (fcd Try.f7 [1, 1, 1])) ?_
    refine WA_seq (x := (fcd Try.f7 [1, 1, 0, 0])) (y := (fcd Try.f7 [1, 1, 0, 1])) ?_
    refine V_regionX Γ Δ [] [0, 1, 2, 3, 6, 7, 8, 9, 10, 15, 35] (evs ?_)
    all_goals (try with_reducible (repeat' (first | apply And.intro | intro _)))
    all_goals (try (first | with_reducible refine wa_id ?_ | exact True.intro | exact valid_fn _ | exact empty_fn _ | exact within_fn _ _ | omega))
    refine V_cond (evs ?_)
    refine ⟨fun hc => ?_, fun hc => ?_⟩
    · refine WA_seq (x := (fcd Try.f7 [1, 1, 0, 1, 0, 0])) (y := (fcd Try.f7 [1, 1, 0, 1, 0, 1])) ?_
      refine V_regionX Γ Δ [] [0, 1, 2, 3, 6, 7, 8, 9, 10, 15, 35] (evs ?_)
      all_goals (try with_reducible (repeat' (first | apply And.intro | intro _)))
      all_goals (try (first | with_reducible refine wa_id ?_ | exact True.intro | omega))
      refine V_ret (evs ?_)
      first | exact nd1 hc | exact nd2 ‹_› (bad1 hc) | exact ⟨fe (nd3 ‹_› (bad0 hc)).1, (nd3 ‹_› (bad0 hc)).2⟩
    · refine WA_skip ?_
      refine WA_seq (x := (fcd Try.f7 [1, 1, 1, 0])) (y := (fcd Try.f7 [1, 1, 1, 1])) ?_
      refine V_draw Γ [] [0, 1, 2, 3, 6, 7, 8, 9, 10, 15, 35] mixed (by kernel_rfl) (evs ?_)
      all_goals (try with_reducible (repeat' (first | apply And.intro | intro _)))
      all_goals (try (first | with_reducible refine wa_id ?_ | exact True.intro | exact freach_fn _ _ | exact grow_fn _ _ | exact meet_fn _ _ | omega))
      refine V_ret (evs ?_)
      first | exact nd1 hc | exact nd2 ‹_› (bad1 hc) | exact ⟨fe (nd3 ‹_› (bad0 hc)).1, (nd3 ‹_› (bad0 hc)).2⟩

/-- imageeditor/imageeditorref16.Needs -/
theorem rfneed_fn (k : Int) (ps : List Int) (r s : Rc) : Eng.Fn Try.prog 8 [.i k, .sl 1 (ps.map iC), rcD r, rcD s] (.tup [.dat (rcD (needR k ps r s)), .dat (.i (needE k ps r s))]) := by
  refine Eng.Fn.by (fn := Try.f8) 44 [.cell 8 24, .tmp 9] Try.func8 rfl Try.ntmps8 rfl (by simp) fun w0 G0 => ?_
  refine WA_seq (x := (fcd Try.f8 [0])) (y := (fcd Try.f8 [1])) ?_
  refine V_regionX Γ Δ [] [0, 1, 2, 3, 6, 7, 8, 9, 10, 15, 35] (evs ?_)
  all_goals (try with_reducible (repeat' (first | apply And.intro | intro _)))
  all_goals (try (first | with_reducible refine wa_id ?_ | exact True.intro | omega))
  refine WA_seq (x := (fcd Try.f8 [1, 0])) (y := (fcd Try.f8 [1, 1])) ?_
  refine WA_seq (x := (fcd Try.f8 [1, 0, 0])) (y := (fcd Try.f8 [1, 0, 1])) ?_
  refine V_regionX Γ Δ [] [0, 1, 2, 3, 6, 7, 8, 9, 10, 15, 35] (evs ?_)
  all_goals (try with_reducible (repeat' (first | apply And.intro | intro _)))
  all_goals (try (first | with_reducible refine wa_id ?_ | exact True.intro | exact rfcheck_fn _ _ | omega))
  refine WA_seq (x := (fcd Try.f8 [1, 0, 1, 0])) (y := (fcd Try.f8 [1, 0, 1, 1])) ?_
  refine V_regionX Γ Δ [] [0, 1, 2, 3, 6, 7, 8, 9, 10, 15, 35] (evs ?_)
  all_goals (try with_reducible (repeat' (first | apply And.intro | intro _)))
  all_goals (try (first | with_reducible refine wa_id ?_ | exact True.intro | omega))
  refine V_cond (evs ?_)
  refine ⟨fun hc => ?_, fun hc => ?_⟩
  · refine WA_seq (x := (fcd Try.f8 [1, 0, 1, 1, 0, 0])) (y := (fcd Try.f8 [1, 0, 1, 1, 0, 1])) ?_
    refine V_regionX Γ Δ [] [0, 1, 2, 3, 6, 7, 8, 9, 10, 15, 35] (evs ?_)
    all_goals (try with_reducible (repeat' (first | apply And.intro | intro _)))
    all_goals (try (first | with_reducible refine wa_id ?_ | exact True.intro | omega))
    refine V_ret (evs ?_)
    first | exact nd1 hc | exact nd2 ‹_› (bad1 hc) | exact ⟨fe (nd3 ‹_› (bad0 hc)).1, (nd3 ‹_› (bad0 hc)).2⟩
  · refine WA_skip ?_
    refine WA_seq (x := (fcd Try.f8 [1, 1, 0])) (y := (fcd Try.f8 [1, 1, 1])) ?_
    refine WA_seq (x := (fcd Try.f8 [1, 1, 0, 0])) (y := (fcd Try.f8 [1, 1, 0, 1])) ?_
    refine V_regionX Γ Δ [] [0, 1, 2, 3, 6, 7, 8, 9, 10, 15, 35] (evs ?_)
    all_goals (try with_reducible (repeat' (first | apply And.intro | intro _)))
    all_goals (try (first | with_reducible refine wa_id ?_ | exact True.intro | exact rvalid_fn _ | exact rempty_fn _ | exact rwithin_fn _ _ | omega))
    refine V_cond (evs ?_)
    refine ⟨fun hc => ?_, fun hc => ?_⟩
    · refine WA_seq (x := (fcd Try.f8 [1, 1, 0, 1, 0, 0])) (y := (fcd Try.f8 [1, 1, 0, 1, 0, 1])) ?_
      refine V_regionX Γ Δ [] [0, 1, 2, 3, 6, 7, 8, 9, 10, 15, 35] (evs ?_)
      all_goals (try with_reducible (repeat' (first | apply And.intro | intro _)))
      all_goals (try (first | with_reducible refine wa_id ?_ | exact True.intro | omega))
      refine V_ret (evs ?_)
      first | exact nd1 hc | exact nd2 ‹_› (bad1 hc) | exact ⟨fe (nd3 ‹_› (bad0 hc)).1, (nd3 ‹_› (bad0 hc)).2⟩
    · refine WA_skip ?_
      refine WA_seq (x := (fcd Try.f8 [1, 1, 1, 0])) (y := (fcd Try.f8 [1, 1, 1, 1])) ?_
      refine V_draw Γ [] [0, 1, 2, 3, 6, 7, 8, 9, 10, 15, 35] mixed (by kernel_rfl) (evs ?_)
      all_goals (try with_reducible (repeat' (first | apply And.intro | intro _)))
      all_goals (try (first | with_reducible refine wa_id ?_ | exact True.intro | exact rfreach_fn _ _ | exact rgrow_fn _ _ | exact rmeet_fn _ _ | omega))
      refine V_ret (evs ?_)
      first | exact nd1 hc | exact nd2 ‹_› (bad1 hc) | exact ⟨fe (nd3 ‹_› (bad0 hc)).1, (nd3 ‹_› (bad0 hc)).2⟩

end Go.S16

