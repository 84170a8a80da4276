import Derived.Test.YtdillkdhpalgcaaGreatB1
import Derived.Test.YtdillkdhpalgcaaGreatA1
set_option linter.unusedSimpArgs false
set_option linter.unusedVariables false
set_option linter.unusedSimpArgs false
set_option linter.unusedVariables false
namespace Go.S16
open Go.RowKit Go.Proofs Go.Eng Go.Rect
theorem fneed_fn (k : Int) (ps : List Int) (r s : Rc) : Eng.Fn Tryz.prog 12 [.i k, .sl 1 (ps.map iC), rcD r, rcD s] (.tup [.dat (rcD (needR k ps r s)), .dat (.i (needE k ps r s))]) := by
  refine Eng.Fn.by (fn := Tryz.f12) 44 [.cell 8 29, .tmp 9] Tryz.func12 rfl Tryz.ntmps12 rfl (by simp) fun w0 G0 => ?_
  refine WA_seq (x := (fcd Tryz.f12 [0])) (y := (fcd Tryz.f12 [1])) ?_
  refine V_regionX Γ Δ [] [0, 1, 2, 3, 6, 7, 8, 9, 10, 15, 35] (evs ?_)
  all_goals (try with_reducible (repeat' (first | apply And.intro | intro _)))
  all_goals (try (first | with_reducible refine wa_id ?_ | exact True.intro | omega))
  refine WA_seq (x := (fcd Tryz.f12 [1, 0])) (y := (fcd Tryz.f12 [1, 1])) ?_
  refine WA_seq (x := (fcd Tryz.f12 [1, 0, 0])) (y := (fcd Tryz.f12 [1, 0, 1])) ?_
  refine V_regionX Γ Δ [] [0, 1, 2, 3, 6, 7, 8, 9, 10, 15, 35] (evs ?_)
  all_goals (try with_reducible (repeat' (first | apply And.intro | intro _)))
  all_goals (try (first | with_reducible refine wa_id ?_ | exact True.intro | exact fcheck_fn _ _ | omega))
  refine WA_seq (x := (fcd Tryz.f12 [1, 0, 1, 0])) (y := (fcd Tryz.f12 [1, 0, 1, 1])) ?_
  refine V_regionX Γ Δ [] [0, 1, 2, 3, 6, 7, 8, 9, 10, 15, 35] (evs ?_)
  all_goals (try with_reducible (repeat' (first | apply And.intro | intro _)))
  all_goals (try (first | with_reducible refine wa_id ?_ | exact True.intro | omega))
  refine V_cond (evs ?_)
  refine ⟨fun hc => ?_, fun hc => ?_⟩
  · refine WA_seq (x := (fcd Tryz.f12 [1, 0, 1, 1, 0, 0])) (y := (fcd Tryz.f12 [1, 0, 1, 1, 0, 1])) ?_
    refine V_regionX Γ Δ [] [0, 1, 2, 3, 6, 7, 8, 9, 10, 15, 35] (evs ?_)
    all_goals (try with_reducible (repeat' (first | apply And.intro | intro _)))
    all_goals (try (first | with_reducible refine wa_id ?_ | exact True.intro | omega))
    refine V_ret (evs ?_)
    first | exact nd1 hc | exact nd2 ‹_› (bad1 hc) | exact ⟨fe (nd3 ‹_› (bad0 hc)).1, (nd3 ‹_› (bad0 hc)).2⟩
  · refine WA_skip ?_
    refine WA_seq (x := (fcd Tryz.f12 [1, 1, 0])) (y := (fcd Tryz.f12 [1, 1, 1])) ?_
    refine WA_seq (x := (fcd Tryz.f12 [1, 1, 0, 0])) (y := (fcd Tryz.f12 [1, 1, 0, 1])) ?_
    refine V_regionX Γ Δ [] [0, 1, 2, 3, 6, 7, 8, 9, 10, 15, 35] (evs ?_)
    all_goals (try with_reducible (repeat' (first | apply And.intro | intro _)))
    all_goals (try (first | with_reducible refine wa_id ?_ | exact True.intro | exact valid_fn _ | exact empty_fn _ | exact within_fn _ _ | omega))
    refine V_cond (evs ?_)
    refine ⟨fun hc => ?_, fun hc => ?_⟩
    · refine WA_seq (x := (fcd Tryz.f12 [1, 1, 0, 1, 0, 0])) (y := (fcd Tryz.f12 [1, 1, 0, 1, 0, 1])) ?_
      refine V_regionX Γ Δ [] [0, 1, 2, 3, 6, 7, 8, 9, 10, 15, 35] (evs ?_)
      all_goals (try with_reducible (repeat' (first | apply And.intro | intro _)))
      all_goals (try (first | with_reducible refine wa_id ?_ | exact True.intro | omega))
      refine V_ret (evs ?_)
      first | exact nd1 hc | exact nd2 ‹_› (bad1 hc) | exact ⟨fe (nd3 ‹_› (bad0 hc)).1, (nd3 ‹_› (bad0 hc)).2⟩
    · refine WA_skip ?_
      refine WA_seq (x := (fcd Tryz.f12 [1, 1, 1, 0])) (y := (fcd Tryz.f12 [1, 1, 1, 1])) ?_
      refine V_draw Γ [] [0, 1, 2, 3, 6, 7, 8, 9, 10, 15, 35] mixed (by kernel_rfl) (evs ?_)
      all_goals (try with_reducible (repeat' (first | apply And.intro | intro _)))
      all_goals (try (first | with_reducible refine wa_id ?_ | exact True.intro | exact freach_fn _ _ | exact grow_fn _ _ | exact meet_fn _ _ | omega))
      refine V_ret (evs ?_)
      first | exact nd1 hc | exact nd2 ‹_› (bad1 hc) | exact ⟨fe (nd3 ‹_› (bad0 hc)).1, (nd3 ‹_› (bad0 hc)).2⟩

theorem rfneed_fn (k : Int) (ps : List Int) (r s : Rc) : Eng.Fn Tryz.prog 17 [.i k, .sl 1 (ps.map iC), rcD r, rcD s] (.tup [.dat (rcD (needR k ps r s)), .dat (.i (needE k ps r s))]) := by
  refine Eng.Fn.by (fn := Tryz.f17) 44 [.cell 8 29, .tmp 9] Tryz.func17 rfl Tryz.ntmps17 rfl (by simp) fun w0 G0 => ?_
  refine WA_seq (x := (fcd Tryz.f17 [0])) (y := (fcd Tryz.f17 [1])) ?_
  refine V_regionX Γ Δ [] [0, 1, 2, 3, 6, 7, 8, 9, 10, 15, 35] (evs ?_)
  all_goals (try with_reducible (repeat' (first | apply And.intro | intro _)))
  all_goals (try (first | with_reducible refine wa_id ?_ | exact True.intro | omega))
  refine WA_seq (x := (fcd Tryz.f17 [1, 0])) (y := (fcd Tryz.f17 [1, 1])) ?_
  refine WA_seq (x := (fcd Tryz.f17 [1, 0, 0])) (y := (fcd Tryz.f17 [1, 0, 1])) ?_
  refine V_regionX Γ Δ [] [0, 1, 2, 3, 6, 7, 8, 9, 10, 15, 35] (evs ?_)
  all_goals (try with_reducible (repeat' (first | apply And.intro | intro _)))
  all_goals (try (first | with_reducible refine wa_id ?_ | exact True.intro | exact rfcheck_fn _ _ | omega))
  refine WA_seq (x := (fcd Tryz.f17 [1, 0, 1, 0])) (y := (fcd Tryz.f17 [1, 0, 1, 1])) ?_
  refine V_regionX Γ Δ [] [0, 1, 2, 3, 6, 7, 8, 9, 10, 15, 35] (evs ?_)
  all_goals (try with_reducible (repeat' (first | apply And.intro | intro _)))
  all_goals (try (first | with_reducible refine wa_id ?_ | exact True.intro | omega))
  refine V_cond (evs ?_)
  refine ⟨fun hc => ?_, fun hc => ?_⟩
  · refine WA_seq (x := (fcd Tryz.f17 [1, 0, 1, 1, 0, 0])) (y := (fcd Tryz.f17 [1, 0, 1, 1, 0, 1])) ?_
    refine V_regionX Γ Δ [] [0, 1, 2, 3, 6, 7, 8, 9, 10, 15, 35] (evs ?_)
    all_goals (try with_reducible (repeat' (first | apply And.intro | intro _)))
    all_goals (try (first | with_reducible refine wa_id ?_ | exact True.intro | omega))
    refine V_ret (evs ?_)
    first | exact nd1 hc | exact nd2 ‹_› (bad1 hc) | exact ⟨fe (nd3 ‹_› (bad0 hc)).1, (nd3 ‹_› (bad0 hc)).2⟩
  · refine WA_skip ?_
    refine WA_seq (x := (fcd Tryz.f17 [1, 1, 0])) (y := (fcd Tryz.f17 [1, 1, 1])) ?_
    refine WA_seq (x := (fcd Tryz.f17 [1, 1, 0, 0])) (y := (fcd Tryz.f17 [1, 1, 0, 1])) ?_
    refine V_regionX Γ Δ [] [0, 1, 2, 3, 6, 7, 8, 9, 10, 15, 35] (evs ?_)
    all_goals (try with_reducible (repeat' (first | apply And.intro | intro _)))
    all_goals (try (first | with_reducible refine wa_id ?_ | exact True.intro | exact rvalid_fn _ | exact rempty_fn _ | exact rwithin_fn _ _ | omega))
    refine V_cond (evs ?_)
    refine ⟨fun hc => ?_, fun hc => ?_⟩
    · refine WA_seq (x := (fcd Tryz.f17 [1, 1, 0, 1, 0, 0])) (y := (fcd Tryz.f17 [1, 1, 0, 1, 0, 1])) ?_
      refine V_regionX Γ Δ [] [0, 1, 2, 3, 6, 7, 8, 9, 10, 15, 35] (evs ?_)
      all_goals (try with_reducible (repeat' (first | apply And.intro | intro _)))
      all_goals (try (first | with_reducible refine wa_id ?_ | exact True.intro | omega))
      refine V_ret (evs ?_)
      first | exact nd1 hc | exact nd2 ‹_› (bad1 hc) | exact ⟨fe (nd3 ‹_› (bad0 hc)).1, (nd3 ‹_› (bad0 hc)).2⟩
    · refine WA_skip ?_
      refine WA_seq (x := (fcd Tryz.f17 [1, 1, 1, 0])) (y := (fcd Tryz.f17 [1, 1, 1, 1])) ?_
      refine V_draw Γ [] [0, 1, 2, 3, 6, 7, 8, 9, 10, 15, 35] mixed (by kernel_rfl) (evs ?_)
      all_goals (try with_reducible (repeat' (first | apply And.intro | intro _)))
      all_goals (try (first | with_reducible refine wa_id ?_ | exact True.intro | exact rfreach_fn _ _ | exact rgrow_fn _ _ | exact rmeet_fn _ _ | omega))
      refine V_ret (evs ?_)
      first | exact nd1 hc | exact nd2 ‹_› (bad1 hc) | exact ⟨fe (nd3 ‹_› (bad0 hc)).1, (nd3 ‹_› (bad0 hc)).2⟩

end Go.S16

