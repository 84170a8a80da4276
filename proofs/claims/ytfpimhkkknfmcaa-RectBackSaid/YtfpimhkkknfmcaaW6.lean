import Derived.Test.YtfpimhkkknfmcaaW3
import Derived.Test.YtfpimhkkknfmcaaW4
import Derived.Test.YtfpimhkkknfmcaaW5
set_option linter.unusedSimpArgs false
set_option linter.unusedVariables false
namespace Go.Rect
open Go.RowKit Go.Proofs Go.Eng
set_option maxRecDepth 100000 in
/-- imageeditor/imageeditorlaw02.awake -/
theorem awake_fn  : Eng.Fn Try.prog 12 [] (.dat (.b true)) := by
  refine Eng.Fn.by (fn := Try.f12) 90 [.tmp 0] Try.func12 rfl Try.ntmps12 rfl (by simp) fun w0 => ?_
  refine WA_seq (x := (fcd Try.f12 [0])) (y := (fcd Try.f12 [1])) ?_
  refine V_regionX Γ Δ [] [0, 1, 2, 27, 50, 60, 65, 75] (evs ?_)
  all_goals (try with_reducible (repeat' (first | apply And.intro | intro _)))
  all_goals (try (first | with_reducible refine wa_id ?_ | exact True.intro | omega | exact has_fn ⟨_, _, _, _⟩ ⟨_, _⟩ | exact move_fn ⟨_, _, _, _⟩ ⟨_, _⟩ | exact tileR_fn ⟨_, _⟩ | exact empty_fn ⟨_, _, _, _⟩ | exact valid_fn ⟨_, _, _, _⟩ | exact area_fn ⟨_, _, _, _⟩ | exact tiles_fn ⟨_, _, _, _⟩ | exact meet_fn ⟨_, _, _, _⟩ ⟨_, _, _, _⟩ | exact join_fn ⟨_, _, _, _⟩ ⟨_, _, _, _⟩ | exact within_fn ⟨_, _, _, _⟩ ⟨_, _, _, _⟩ | exact minus_fn ⟨_, _, _, _⟩ ⟨_, _, _, _⟩ | exact grow_fn ⟨_, _, _, _⟩ _ | exact sameR_fn _ [⟨_, _, _, _⟩, ⟨_, _, _, _⟩, ⟨_, _, _, _⟩, ⟨_, _, _, _⟩] | exact sameP_fn _ [⟨_, _⟩, ⟨_, _⟩, ⟨_, _⟩, ⟨_, _⟩]))
  refine WA_seq (x := (fcd Try.f12 [1, 0])) (y := (fcd Try.f12 [1, 1])) ?_
  refine V_regionX Γ Δ [] [0, 1, 2, 27, 50, 60, 65, 75] (evs ?_)
  all_goals (try with_reducible (repeat' (first | apply And.intro | intro _)))
  all_goals (try (first | with_reducible refine wa_id ?_ | exact True.intro | omega | exact has_fn ⟨_, _, _, _⟩ ⟨_, _⟩ | exact move_fn ⟨_, _, _, _⟩ ⟨_, _⟩ | exact tileR_fn ⟨_, _⟩ | exact empty_fn ⟨_, _, _, _⟩ | exact valid_fn ⟨_, _, _, _⟩ | exact area_fn ⟨_, _, _, _⟩ | exact tiles_fn ⟨_, _, _, _⟩ | exact meet_fn ⟨_, _, _, _⟩ ⟨_, _, _, _⟩ | exact join_fn ⟨_, _, _, _⟩ ⟨_, _, _, _⟩ | exact within_fn ⟨_, _, _, _⟩ ⟨_, _, _, _⟩ | exact minus_fn ⟨_, _, _, _⟩ ⟨_, _, _, _⟩ | exact grow_fn ⟨_, _, _, _⟩ _ | exact sameR_fn _ [⟨_, _, _, _⟩, ⟨_, _, _, _⟩, ⟨_, _, _, _⟩, ⟨_, _, _, _⟩] | exact sameP_fn _ [⟨_, _⟩, ⟨_, _⟩, ⟨_, _⟩, ⟨_, _⟩]))
  refine WA_seq (x := (fcd Try.f12 [1, 1, 0])) (y := (fcd Try.f12 [1, 1, 1])) ?_
  refine WA_seq (x := (fcd Try.f12 [1, 1, 0, 0])) (y := (fcd Try.f12 [1, 1, 0, 1])) ?_
  refine V_regionX Γ Δ [] [0, 1, 2, 27, 50, 60, 65, 75] (evs ?_)
  all_goals (try with_reducible (repeat' (first | apply And.intro | intro _)))
  all_goals (try (first | with_reducible refine wa_id ?_ | exact True.intro | exact valid_fn _ | exact empty_fn _ | exact area_fn _ | exact has_fn _ _ | omega | exact has_fn ⟨_, _, _, _⟩ ⟨_, _⟩ | exact move_fn ⟨_, _, _, _⟩ ⟨_, _⟩ | exact tileR_fn ⟨_, _⟩ | exact empty_fn ⟨_, _, _, _⟩ | exact valid_fn ⟨_, _, _, _⟩ | exact area_fn ⟨_, _, _, _⟩ | exact tiles_fn ⟨_, _, _, _⟩ | exact meet_fn ⟨_, _, _, _⟩ ⟨_, _, _, _⟩ | exact join_fn ⟨_, _, _, _⟩ ⟨_, _, _, _⟩ | exact within_fn ⟨_, _, _, _⟩ ⟨_, _, _, _⟩ | exact minus_fn ⟨_, _, _, _⟩ ⟨_, _, _, _⟩ | exact grow_fn ⟨_, _, _, _⟩ _ | exact sameR_fn _ [⟨_, _, _, _⟩, ⟨_, _, _, _⟩, ⟨_, _, _, _⟩, ⟨_, _, _, _⟩] | exact sameP_fn _ [⟨_, _⟩, ⟨_, _⟩, ⟨_, _⟩, ⟨_, _⟩]))
  refine V_cond (evs ?_)
  refine ⟨fun hc => ?_, fun hc => ?_⟩
  · refine WA_seq (x := (fcd Try.f12 [1, 1, 0, 1, 0, 0])) (y := (fcd Try.f12 [1, 1, 0, 1, 0, 1])) ?_
    refine V_regionX Γ Δ [] [0, 1, 2, 27, 50, 60, 65, 75] (evs ?_)
    all_goals (try with_reducible (repeat' (first | apply And.intro | intro _)))
    all_goals (try (first | with_reducible refine wa_id ?_ | exact True.intro | omega | exact has_fn ⟨_, _, _, _⟩ ⟨_, _⟩ | exact move_fn ⟨_, _, _, _⟩ ⟨_, _⟩ | exact tileR_fn ⟨_, _⟩ | exact empty_fn ⟨_, _, _, _⟩ | exact valid_fn ⟨_, _, _, _⟩ | exact area_fn ⟨_, _, _, _⟩ | exact tiles_fn ⟨_, _, _, _⟩ | exact meet_fn ⟨_, _, _, _⟩ ⟨_, _, _, _⟩ | exact join_fn ⟨_, _, _, _⟩ ⟨_, _, _, _⟩ | exact within_fn ⟨_, _, _, _⟩ ⟨_, _, _, _⟩ | exact minus_fn ⟨_, _, _, _⟩ ⟨_, _, _, _⟩ | exact grow_fn ⟨_, _, _, _⟩ _ | exact sameR_fn _ [⟨_, _, _, _⟩, ⟨_, _, _, _⟩, ⟨_, _, _, _⟩, ⟨_, _, _, _⟩] | exact sameP_fn _ [⟨_, _⟩, ⟨_, _⟩, ⟨_, _⟩, ⟨_, _⟩]))
    refine V_ret (evs ?_)
    all_goals (first | exact absurd hc (by decide) | decide | rfl)
  · refine WA_skip ?_
    refine WA_seq (x := (fcd Try.f12 [1, 1, 1, 0])) (y := (fcd Try.f12 [1, 1, 1, 1])) ?_
    refine WA_seq (x := (fcd Try.f12 [1, 1, 1, 0, 0])) (y := (fcd Try.f12 [1, 1, 1, 0, 1])) ?_
    refine V_regionX Γ Δ [] [0, 1, 2, 27, 50, 60, 65, 75] (evs ?_)
    all_goals (try with_reducible (repeat' (first | apply And.intro | intro _)))
    all_goals (try (first | with_reducible refine wa_id ?_ | exact True.intro | exact meet_fn _ _ | exact join_fn _ _ | exact within_fn _ _ | omega | exact has_fn ⟨_, _, _, _⟩ ⟨_, _⟩ | exact move_fn ⟨_, _, _, _⟩ ⟨_, _⟩ | exact tileR_fn ⟨_, _⟩ | exact empty_fn ⟨_, _, _, _⟩ | exact valid_fn ⟨_, _, _, _⟩ | exact area_fn ⟨_, _, _, _⟩ | exact tiles_fn ⟨_, _, _, _⟩ | exact meet_fn ⟨_, _, _, _⟩ ⟨_, _, _, _⟩ | exact join_fn ⟨_, _, _, _⟩ ⟨_, _, _, _⟩ | exact within_fn ⟨_, _, _, _⟩ ⟨_, _, _, _⟩ | exact minus_fn ⟨_, _, _, _⟩ ⟨_, _, _, _⟩ | exact grow_fn ⟨_, _, _, _⟩ _ | exact sameR_fn _ [⟨_, _, _, _⟩, ⟨_, _, _, _⟩, ⟨_, _, _, _⟩, ⟨_, _, _, _⟩] | exact sameP_fn _ [⟨_, _⟩, ⟨_, _⟩, ⟨_, _⟩, ⟨_, _⟩]))
    refine V_cond (evs ?_)
    refine ⟨fun hc => ?_, fun hc => ?_⟩
    · refine WA_seq (x := (fcd Try.f12 [1, 1, 1, 0, 1, 0, 0])) (y := (fcd Try.f12 [1, 1, 1, 0, 1, 0, 1])) ?_
      refine V_regionX Γ Δ [] [0, 1, 2, 27, 50, 60, 65, 75] (evs ?_)
      all_goals (try with_reducible (repeat' (first | apply And.intro | intro _)))
      all_goals (try (first | with_reducible refine wa_id ?_ | exact True.intro | omega | exact has_fn ⟨_, _, _, _⟩ ⟨_, _⟩ | exact move_fn ⟨_, _, _, _⟩ ⟨_, _⟩ | exact tileR_fn ⟨_, _⟩ | exact empty_fn ⟨_, _, _, _⟩ | exact valid_fn ⟨_, _, _, _⟩ | exact area_fn ⟨_, _, _, _⟩ | exact tiles_fn ⟨_, _, _, _⟩ | exact meet_fn ⟨_, _, _, _⟩ ⟨_, _, _, _⟩ | exact join_fn ⟨_, _, _, _⟩ ⟨_, _, _, _⟩ | exact within_fn ⟨_, _, _, _⟩ ⟨_, _, _, _⟩ | exact minus_fn ⟨_, _, _, _⟩ ⟨_, _, _, _⟩ | exact grow_fn ⟨_, _, _, _⟩ _ | exact sameR_fn _ [⟨_, _, _, _⟩, ⟨_, _, _, _⟩, ⟨_, _, _, _⟩, ⟨_, _, _, _⟩] | exact sameP_fn _ [⟨_, _⟩, ⟨_, _⟩, ⟨_, _⟩, ⟨_, _⟩]))
      refine V_ret (evs ?_)
      all_goals (first | exact absurd hc (by decide) | decide | rfl)
    · refine WA_skip ?_
      refine WA_seq (x := (fcd Try.f12 [1, 1, 1, 1, 0])) (y := (fcd Try.f12 [1, 1, 1, 1, 1])) ?_
      refine WA_seq (x := (fcd Try.f12 [1, 1, 1, 1, 0, 0])) (y := (fcd Try.f12 [1, 1, 1, 1, 0, 1])) ?_
      refine V_regionX Γ Δ [] [0, 1, 2, 27, 50, 60, 65, 75] (evs ?_)
      all_goals (try with_reducible (repeat' (first | apply And.intro | intro _)))
      all_goals (try (first | with_reducible refine wa_id ?_ | exact True.intro | exact grow_fn _ _ | omega | exact has_fn ⟨_, _, _, _⟩ ⟨_, _⟩ | exact move_fn ⟨_, _, _, _⟩ ⟨_, _⟩ | exact tileR_fn ⟨_, _⟩ | exact empty_fn ⟨_, _, _, _⟩ | exact valid_fn ⟨_, _, _, _⟩ | exact area_fn ⟨_, _, _, _⟩ | exact tiles_fn ⟨_, _, _, _⟩ | exact meet_fn ⟨_, _, _, _⟩ ⟨_, _, _, _⟩ | exact join_fn ⟨_, _, _, _⟩ ⟨_, _, _, _⟩ | exact within_fn ⟨_, _, _, _⟩ ⟨_, _, _, _⟩ | exact minus_fn ⟨_, _, _, _⟩ ⟨_, _, _, _⟩ | exact grow_fn ⟨_, _, _, _⟩ _ | exact sameR_fn _ [⟨_, _, _, _⟩, ⟨_, _, _, _⟩, ⟨_, _, _, _⟩, ⟨_, _, _, _⟩] | exact sameP_fn _ [⟨_, _⟩, ⟨_, _⟩, ⟨_, _⟩, ⟨_, _⟩]))
      refine V_cond (evs ?_)
      refine ⟨fun hc => ?_, fun hc => ?_⟩
      · refine WA_seq (x := (fcd Try.f12 [1, 1, 1, 1, 0, 1, 0, 0])) (y := (fcd Try.f12 [1, 1, 1, 1, 0, 1, 0, 1])) ?_
        refine V_regionX Γ Δ [] [0, 1, 2, 27, 50, 60, 65, 75] (evs ?_)
        all_goals (try with_reducible (repeat' (first | apply And.intro | intro _)))
        all_goals (try (first | with_reducible refine wa_id ?_ | exact True.intro | omega | exact has_fn ⟨_, _, _, _⟩ ⟨_, _⟩ | exact move_fn ⟨_, _, _, _⟩ ⟨_, _⟩ | exact tileR_fn ⟨_, _⟩ | exact empty_fn ⟨_, _, _, _⟩ | exact valid_fn ⟨_, _, _, _⟩ | exact area_fn ⟨_, _, _, _⟩ | exact tiles_fn ⟨_, _, _, _⟩ | exact meet_fn ⟨_, _, _, _⟩ ⟨_, _, _, _⟩ | exact join_fn ⟨_, _, _, _⟩ ⟨_, _, _, _⟩ | exact within_fn ⟨_, _, _, _⟩ ⟨_, _, _, _⟩ | exact minus_fn ⟨_, _, _, _⟩ ⟨_, _, _, _⟩ | exact grow_fn ⟨_, _, _, _⟩ _ | exact sameR_fn _ [⟨_, _, _, _⟩, ⟨_, _, _, _⟩, ⟨_, _, _, _⟩, ⟨_, _, _, _⟩] | exact sameP_fn _ [⟨_, _⟩, ⟨_, _⟩, ⟨_, _⟩, ⟨_, _⟩]))
        refine V_ret (evs ?_)
        all_goals (first | exact absurd hc (by decide) | decide | rfl)
      · refine WA_skip ?_
        refine WA_seq (x := (fcd Try.f12 [1, 1, 1, 1, 1, 0])) (y := (fcd Try.f12 [1, 1, 1, 1, 1, 1])) ?_
        refine WA_seq (x := (fcd Try.f12 [1, 1, 1, 1, 1, 0, 0])) (y := (fcd Try.f12 [1, 1, 1, 1, 1, 0, 1])) ?_
        refine V_regionX Γ Δ [] [0, 1, 2, 27, 50, 60, 65, 75] (evs ?_)
        all_goals (try with_reducible (repeat' (first | apply And.intro | intro _)))
        all_goals (try (first | with_reducible refine wa_id ?_ | exact True.intro | exact move_fn _ _ | omega | exact has_fn ⟨_, _, _, _⟩ ⟨_, _⟩ | exact move_fn ⟨_, _, _, _⟩ ⟨_, _⟩ | exact tileR_fn ⟨_, _⟩ | exact empty_fn ⟨_, _, _, _⟩ | exact valid_fn ⟨_, _, _, _⟩ | exact area_fn ⟨_, _, _, _⟩ | exact tiles_fn ⟨_, _, _, _⟩ | exact meet_fn ⟨_, _, _, _⟩ ⟨_, _, _, _⟩ | exact join_fn ⟨_, _, _, _⟩ ⟨_, _, _, _⟩ | exact within_fn ⟨_, _, _, _⟩ ⟨_, _, _, _⟩ | exact minus_fn ⟨_, _, _, _⟩ ⟨_, _, _, _⟩ | exact grow_fn ⟨_, _, _, _⟩ _ | exact sameR_fn _ [⟨_, _, _, _⟩, ⟨_, _, _, _⟩, ⟨_, _, _, _⟩, ⟨_, _, _, _⟩] | exact sameP_fn _ [⟨_, _⟩, ⟨_, _⟩, ⟨_, _⟩, ⟨_, _⟩]))
        refine V_cond (evs ?_)
        refine ⟨fun hc => ?_, fun hc => ?_⟩
        · refine WA_seq (x := (fcd Try.f12 [1, 1, 1, 1, 1, 0, 1, 0, 0])) (y := (fcd Try.f12 [1, 1, 1, 1, 1, 0, 1, 0, 1])) ?_
          refine V_regionX Γ Δ [] [0, 1, 2, 27, 50, 60, 65, 75] (evs ?_)
          all_goals (try with_reducible (repeat' (first | apply And.intro | intro _)))
          all_goals (try (first | with_reducible refine wa_id ?_ | exact True.intro | omega | exact has_fn ⟨_, _, _, _⟩ ⟨_, _⟩ | exact move_fn ⟨_, _, _, _⟩ ⟨_, _⟩ | exact tileR_fn ⟨_, _⟩ | exact empty_fn ⟨_, _, _, _⟩ | exact valid_fn ⟨_, _, _, _⟩ | exact area_fn ⟨_, _, _, _⟩ | exact tiles_fn ⟨_, _, _, _⟩ | exact meet_fn ⟨_, _, _, _⟩ ⟨_, _, _, _⟩ | exact join_fn ⟨_, _, _, _⟩ ⟨_, _, _, _⟩ | exact within_fn ⟨_, _, _, _⟩ ⟨_, _, _, _⟩ | exact minus_fn ⟨_, _, _, _⟩ ⟨_, _, _, _⟩ | exact grow_fn ⟨_, _, _, _⟩ _ | exact sameR_fn _ [⟨_, _, _, _⟩, ⟨_, _, _, _⟩, ⟨_, _, _, _⟩, ⟨_, _, _, _⟩] | exact sameP_fn _ [⟨_, _⟩, ⟨_, _⟩, ⟨_, _⟩, ⟨_, _⟩]))
          refine V_ret (evs ?_)
          all_goals (first | exact absurd hc (by decide) | decide | rfl)
        · refine WA_skip ?_
          refine WA_seq (x := (fcd Try.f12 [1, 1, 1, 1, 1, 1, 0])) (y := (fcd Try.f12 [1, 1, 1, 1, 1, 1, 1])) ?_
          refine WA_seq (x := (fcd Try.f12 [1, 1, 1, 1, 1, 1, 0, 0])) (y := (fcd Try.f12 [1, 1, 1, 1, 1, 1, 0, 1])) ?_
          refine V_regionX Γ Δ [] [0, 1, 2, 27, 50, 60, 65, 75] (evs ?_)
          all_goals (try with_reducible (repeat' (first | apply And.intro | intro _)))
          all_goals (try (first | with_reducible refine wa_id ?_ | exact True.intro | exact minus_fn _ _ | exact sameR_fn _ _ | omega | exact has_fn ⟨_, _, _, _⟩ ⟨_, _⟩ | exact move_fn ⟨_, _, _, _⟩ ⟨_, _⟩ | exact tileR_fn ⟨_, _⟩ | exact empty_fn ⟨_, _, _, _⟩ | exact valid_fn ⟨_, _, _, _⟩ | exact area_fn ⟨_, _, _, _⟩ | exact tiles_fn ⟨_, _, _, _⟩ | exact meet_fn ⟨_, _, _, _⟩ ⟨_, _, _, _⟩ | exact join_fn ⟨_, _, _, _⟩ ⟨_, _, _, _⟩ | exact within_fn ⟨_, _, _, _⟩ ⟨_, _, _, _⟩ | exact minus_fn ⟨_, _, _, _⟩ ⟨_, _, _, _⟩ | exact grow_fn ⟨_, _, _, _⟩ _ | exact sameR_fn _ [⟨_, _, _, _⟩, ⟨_, _, _, _⟩, ⟨_, _, _, _⟩, ⟨_, _, _, _⟩] | exact sameP_fn _ [⟨_, _⟩, ⟨_, _⟩, ⟨_, _⟩, ⟨_, _⟩]))
          refine V_cond (evs ?_)
          refine ⟨fun hc => ?_, fun hc => ?_⟩
          · refine WA_seq (x := (fcd Try.f12 [1, 1, 1, 1, 1, 1, 0, 1, 0, 0])) (y := (fcd Try.f12 [1, 1, 1, 1, 1, 1, 0, 1, 0, 1])) ?_
            refine V_regionX Γ Δ [] [0, 1, 2, 27, 50, 60, 65, 75] (evs ?_)
            all_goals (try with_reducible (repeat' (first | apply And.intro | intro _)))
            all_goals (try (first | with_reducible refine wa_id ?_ | exact True.intro | omega | exact has_fn ⟨_, _, _, _⟩ ⟨_, _⟩ | exact move_fn ⟨_, _, _, _⟩ ⟨_, _⟩ | exact tileR_fn ⟨_, _⟩ | exact empty_fn ⟨_, _, _, _⟩ | exact valid_fn ⟨_, _, _, _⟩ | exact area_fn ⟨_, _, _, _⟩ | exact tiles_fn ⟨_, _, _, _⟩ | exact meet_fn ⟨_, _, _, _⟩ ⟨_, _, _, _⟩ | exact join_fn ⟨_, _, _, _⟩ ⟨_, _, _, _⟩ | exact within_fn ⟨_, _, _, _⟩ ⟨_, _, _, _⟩ | exact minus_fn ⟨_, _, _, _⟩ ⟨_, _, _, _⟩ | exact grow_fn ⟨_, _, _, _⟩ _ | exact sameR_fn _ [⟨_, _, _, _⟩, ⟨_, _, _, _⟩, ⟨_, _, _, _⟩, ⟨_, _, _, _⟩] | exact sameP_fn _ [⟨_, _⟩, ⟨_, _⟩, ⟨_, _⟩, ⟨_, _⟩]))
            refine V_ret (evs ?_)
            all_goals (first | exact absurd hc (by decide) | decide | rfl)
          · refine WA_skip ?_
            refine WA_seq (x := (fcd Try.f12 [1, 1, 1, 1, 1, 1, 1, 0])) (y := (fcd Try.f12 [1, 1, 1, 1, 1, 1, 1, 1])) ?_
            refine V_regionX Γ Δ [] [0, 1, 2, 27, 50, 60, 65, 75] (evs ?_)
            all_goals (try with_reducible (repeat' (first | apply And.intro | intro _)))
            all_goals (try (first | with_reducible refine wa_id ?_ | exact True.intro | exact tiles_fn _ | exact sameP_fn _ _ | exact tileR_fn _ | omega | exact has_fn ⟨_, _, _, _⟩ ⟨_, _⟩ | exact move_fn ⟨_, _, _, _⟩ ⟨_, _⟩ | exact tileR_fn ⟨_, _⟩ | exact empty_fn ⟨_, _, _, _⟩ | exact valid_fn ⟨_, _, _, _⟩ | exact area_fn ⟨_, _, _, _⟩ | exact tiles_fn ⟨_, _, _, _⟩ | exact meet_fn ⟨_, _, _, _⟩ ⟨_, _, _, _⟩ | exact join_fn ⟨_, _, _, _⟩ ⟨_, _, _, _⟩ | exact within_fn ⟨_, _, _, _⟩ ⟨_, _, _, _⟩ | exact minus_fn ⟨_, _, _, _⟩ ⟨_, _, _, _⟩ | exact grow_fn ⟨_, _, _, _⟩ _ | exact sameR_fn _ [⟨_, _, _, _⟩, ⟨_, _, _, _⟩, ⟨_, _, _, _⟩, ⟨_, _, _, _⟩] | exact sameP_fn _ [⟨_, _⟩, ⟨_, _⟩, ⟨_, _⟩, ⟨_, _⟩]))
            refine V_ret (evs ?_)
            all_goals (first | exact absurd hc (by decide) | decide | rfl)

end Go.Rect

