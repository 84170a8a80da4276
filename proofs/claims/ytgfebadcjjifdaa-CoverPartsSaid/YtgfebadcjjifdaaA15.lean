import Derived.Test.YtgfebadcjjifdaaA13
import Derived.Test.YtgfebadcjjifdaaA14
import Derived.Test.YtgfebadcjjifdaaA4
import Derived.Test.YtgfebadcjjifdaaA5
namespace Go.S20
open Go.RowKit Go.Proofs Go.Eng Go.Rect
set_option maxRecDepth 100000 in
/-- imageeditor/imageeditorlaw20.awake -/
theorem awake_fn  : Eng.Fn Try.prog 11 [] (.dat (.b true)) := by
  refine Eng.Fn.by (fn := Try.f11) 113 [.tmp 0] Try.func11 rfl Try.ntmps11 rfl (by simp) fun w0 => ?_
  refine WA_seq (x := (fcd Try.f11 [0])) (y := (fcd Try.f11 [1])) ?_
  refine V_regionX Γ Δ [6, 10, 12, 13, 17, 18, 19, 25, 26, 32, 33, 39, 40, 56, 64, 67, 108, 109] [0, 1, 2, 3, 4, 5, 29, 60, 103] (evs ?_)
  all_goals (try with_reducible (repeat' (first | apply And.intro | intro _)))
  all_goals (try (first | with_reducible refine wa_id ?_ | exact True.intro | omega | exact covers_fn [squareL _ _ _ _] _ [_, _, _] | exact covers_fn [squareL _ _ _ _] _ [_, _] | exact covers_fn [[⟨_, _⟩, ⟨_, _⟩, ⟨_, _⟩]] _ [_, _] | exact covers_fn [squareL _ _ _ _, squareL _ _ _ _] _ [_, _] | exact ctwice_fn (squareL _ _ _ _) | exact ctwice_fn [⟨_, _⟩, ⟨_, _⟩, ⟨_, _⟩] | exact cbox_fn [squareL _ _ _ _] | exact cpaint_fn [squareL _ _ _ _] _ ⟨_, _, _, _⟩ ⟨_, _, _, _⟩ | exact Fn.nil0 1 (ccheck_fn [] _) | exact ccheck_fn [[⟨_, _⟩]] _ | decide +kernel))
  refine WA_seq (x := (fcd Try.f11 [1, 0])) (y := (fcd Try.f11 [1, 1])) ?_
  refine V_regionX Γ Δ [6, 10, 12, 13, 17, 18, 19, 25, 26, 32, 33, 39, 40, 56, 64, 67, 108, 109] [0, 1, 2, 3, 4, 5, 29, 60, 103] (evs ?_)
  all_goals (try with_reducible (repeat' (first | apply And.intro | intro _)))
  all_goals (try (first | with_reducible refine wa_id ?_ | exact True.intro | exact square_fn _ _ _ _ | omega | exact covers_fn [squareL _ _ _ _] _ [_, _, _] | exact covers_fn [squareL _ _ _ _] _ [_, _] | exact covers_fn [[⟨_, _⟩, ⟨_, _⟩, ⟨_, _⟩]] _ [_, _] | exact covers_fn [squareL _ _ _ _, squareL _ _ _ _] _ [_, _] | exact ctwice_fn (squareL _ _ _ _) | exact ctwice_fn [⟨_, _⟩, ⟨_, _⟩, ⟨_, _⟩] | exact cbox_fn [squareL _ _ _ _] | exact cpaint_fn [squareL _ _ _ _] _ ⟨_, _, _, _⟩ ⟨_, _, _, _⟩ | exact Fn.nil0 1 (ccheck_fn [] _) | exact ccheck_fn [[⟨_, _⟩]] _ | decide +kernel))
  refine WA_seq (x := (fcd Try.f11 [1, 1, 0])) (y := (fcd Try.f11 [1, 1, 1])) ?_
  refine WA_seq (x := (fcd Try.f11 [1, 1, 0, 0])) (y := (fcd Try.f11 [1, 1, 0, 1])) ?_
  refine V_regionX Γ Δ [6, 10, 12, 13, 17, 18, 19, 25, 26, 32, 33, 39, 40, 56, 64, 67, 108, 109] [0, 1, 2, 3, 4, 5, 29, 60, 103] (evs ?_)
  all_goals (try with_reducible (repeat' (first | apply And.intro | intro _)))
  all_goals (try (first | with_reducible refine wa_id ?_ | exact True.intro | exact covers_fn _ _ _ | exact square_fn _ _ _ _ | omega | exact covers_fn [squareL _ _ _ _] _ [_, _, _] | exact covers_fn [squareL _ _ _ _] _ [_, _] | exact covers_fn [[⟨_, _⟩, ⟨_, _⟩, ⟨_, _⟩]] _ [_, _] | exact covers_fn [squareL _ _ _ _, squareL _ _ _ _] _ [_, _] | exact ctwice_fn (squareL _ _ _ _) | exact ctwice_fn [⟨_, _⟩, ⟨_, _⟩, ⟨_, _⟩] | exact cbox_fn [squareL _ _ _ _] | exact cpaint_fn [squareL _ _ _ _] _ ⟨_, _, _, _⟩ ⟨_, _, _, _⟩ | exact Fn.nil0 1 (ccheck_fn [] _) | exact ccheck_fn [[⟨_, _⟩]] _ | decide +kernel))
  refine V_cond (evs ?_)
  refine ⟨fun hc => ?_, fun hc => ?_⟩
  · refine WA_seq (x := (fcd Try.f11 [1, 1, 0, 1, 0, 0])) (y := (fcd Try.f11 [1, 1, 0, 1, 0, 1])) ?_
    refine V_regionX Γ Δ [6, 10, 12, 13, 17, 18, 19, 25, 26, 32, 33, 39, 40, 56, 64, 67, 108, 109] [0, 1, 2, 3, 4, 5, 29, 60, 103] (evs ?_)
    all_goals (try with_reducible (repeat' (first | apply And.intro | intro _)))
    all_goals (try (first | with_reducible refine wa_id ?_ | exact True.intro | omega | exact covers_fn [squareL _ _ _ _] _ [_, _, _] | exact covers_fn [squareL _ _ _ _] _ [_, _] | exact covers_fn [[⟨_, _⟩, ⟨_, _⟩, ⟨_, _⟩]] _ [_, _] | exact covers_fn [squareL _ _ _ _, squareL _ _ _ _] _ [_, _] | exact ctwice_fn (squareL _ _ _ _) | exact ctwice_fn [⟨_, _⟩, ⟨_, _⟩, ⟨_, _⟩] | exact cbox_fn [squareL _ _ _ _] | exact cpaint_fn [squareL _ _ _ _] _ ⟨_, _, _, _⟩ ⟨_, _, _, _⟩ | exact Fn.nil0 1 (ccheck_fn [] _) | exact ccheck_fn [[⟨_, _⟩]] _ | decide +kernel))
    refine V_ret (evs ?_)
    all_goals (first | exact absurd hc (by decide +kernel) | decide +kernel | rfl)
  · refine WA_skip ?_
    refine WA_seq (x := (fcd Try.f11 [1, 1, 1, 0])) (y := (fcd Try.f11 [1, 1, 1, 1])) ?_
    refine WA_seq (x := (fcd Try.f11 [1, 1, 1, 0, 0])) (y := (fcd Try.f11 [1, 1, 1, 0, 1])) ?_
    refine V_regionX Γ Δ [6, 10, 12, 13, 17, 18, 19, 25, 26, 32, 33, 39, 40, 56, 64, 67, 108, 109] [0, 1, 2, 3, 4, 5, 29, 60, 103] (evs ?_)
    all_goals (try with_reducible (repeat' (first | apply And.intro | intro _)))
    all_goals (try (first | with_reducible refine wa_id ?_ | exact True.intro | exact covers_fn _ _ _ | exact ctwice_fn _ | exact cbox_fn _ | omega | exact covers_fn [squareL _ _ _ _] _ [_, _, _] | exact covers_fn [squareL _ _ _ _] _ [_, _] | exact covers_fn [[⟨_, _⟩, ⟨_, _⟩, ⟨_, _⟩]] _ [_, _] | exact covers_fn [squareL _ _ _ _, squareL _ _ _ _] _ [_, _] | exact ctwice_fn (squareL _ _ _ _) | exact ctwice_fn [⟨_, _⟩, ⟨_, _⟩, ⟨_, _⟩] | exact cbox_fn [squareL _ _ _ _] | exact cpaint_fn [squareL _ _ _ _] _ ⟨_, _, _, _⟩ ⟨_, _, _, _⟩ | exact Fn.nil0 1 (ccheck_fn [] _) | exact ccheck_fn [[⟨_, _⟩]] _ | decide +kernel))
    refine V_cond (evs ?_)
    refine ⟨fun hc => ?_, fun hc => ?_⟩
    · refine WA_seq (x := (fcd Try.f11 [1, 1, 1, 0, 1, 0, 0])) (y := (fcd Try.f11 [1, 1, 1, 0, 1, 0, 1])) ?_
      refine V_regionX Γ Δ [6, 10, 12, 13, 17, 18, 19, 25, 26, 32, 33, 39, 40, 56, 64, 67, 108, 109] [0, 1, 2, 3, 4, 5, 29, 60, 103] (evs ?_)
      all_goals (try with_reducible (repeat' (first | apply And.intro | intro _)))
      all_goals (try (first | with_reducible refine wa_id ?_ | exact True.intro | omega | exact covers_fn [squareL _ _ _ _] _ [_, _, _] | exact covers_fn [squareL _ _ _ _] _ [_, _] | exact covers_fn [[⟨_, _⟩, ⟨_, _⟩, ⟨_, _⟩]] _ [_, _] | exact covers_fn [squareL _ _ _ _, squareL _ _ _ _] _ [_, _] | exact ctwice_fn (squareL _ _ _ _) | exact ctwice_fn [⟨_, _⟩, ⟨_, _⟩, ⟨_, _⟩] | exact cbox_fn [squareL _ _ _ _] | exact cpaint_fn [squareL _ _ _ _] _ ⟨_, _, _, _⟩ ⟨_, _, _, _⟩ | exact Fn.nil0 1 (ccheck_fn [] _) | exact ccheck_fn [[⟨_, _⟩]] _ | decide +kernel))
      refine V_ret (evs ?_)
      all_goals (first | exact absurd hc (by decide +kernel) | decide +kernel | rfl)
    · refine WA_skip ?_
      refine WA_seq (x := (fcd Try.f11 [1, 1, 1, 1, 0])) (y := (fcd Try.f11 [1, 1, 1, 1, 1])) ?_
      refine V_regionX Γ Δ [6, 10, 12, 13, 17, 18, 19, 25, 26, 32, 33, 39, 40, 56, 64, 67, 108, 109] [0, 1, 2, 3, 4, 5, 29, 60, 103] (evs ?_)
      all_goals (try with_reducible (repeat' (first | apply And.intro | intro _)))
      all_goals (try (first | with_reducible refine wa_id ?_ | exact True.intro | omega | exact covers_fn [squareL _ _ _ _] _ [_, _, _] | exact covers_fn [squareL _ _ _ _] _ [_, _] | exact covers_fn [[⟨_, _⟩, ⟨_, _⟩, ⟨_, _⟩]] _ [_, _] | exact covers_fn [squareL _ _ _ _, squareL _ _ _ _] _ [_, _] | exact ctwice_fn (squareL _ _ _ _) | exact ctwice_fn [⟨_, _⟩, ⟨_, _⟩, ⟨_, _⟩] | exact cbox_fn [squareL _ _ _ _] | exact cpaint_fn [squareL _ _ _ _] _ ⟨_, _, _, _⟩ ⟨_, _, _, _⟩ | exact Fn.nil0 1 (ccheck_fn [] _) | exact ccheck_fn [[⟨_, _⟩]] _ | decide +kernel))
      refine WA_seq (x := (fcd Try.f11 [1, 1, 1, 1, 1, 0])) (y := (fcd Try.f11 [1, 1, 1, 1, 1, 1])) ?_
      refine V_regionX Γ Δ [6, 10, 12, 13, 17, 18, 19, 25, 26, 32, 33, 39, 40, 56, 64, 67, 108, 109] [0, 1, 2, 3, 4, 5, 29, 60, 103] (evs ?_)
      all_goals (try with_reducible (repeat' (first | apply And.intro | intro _)))
      all_goals (try (first | with_reducible refine wa_id ?_ | exact True.intro | exact cpaint_fn _ _ ⟨_, _, _, _⟩ ⟨_, _, _, _⟩ | omega | exact covers_fn [squareL _ _ _ _] _ [_, _, _] | exact covers_fn [squareL _ _ _ _] _ [_, _] | exact covers_fn [[⟨_, _⟩, ⟨_, _⟩, ⟨_, _⟩]] _ [_, _] | exact covers_fn [squareL _ _ _ _, squareL _ _ _ _] _ [_, _] | exact ctwice_fn (squareL _ _ _ _) | exact ctwice_fn [⟨_, _⟩, ⟨_, _⟩, ⟨_, _⟩] | exact cbox_fn [squareL _ _ _ _] | exact cpaint_fn [squareL _ _ _ _] _ ⟨_, _, _, _⟩ ⟨_, _, _, _⟩ | exact Fn.nil0 1 (ccheck_fn [] _) | exact ccheck_fn [[⟨_, _⟩]] _ | decide +kernel))
      refine WA_seq (x := (fcd Try.f11 [1, 1, 1, 1, 1, 1, 0])) (y := (fcd Try.f11 [1, 1, 1, 1, 1, 1, 1])) ?_
      refine WA_seq (x := (fcd Try.f11 [1, 1, 1, 1, 1, 1, 0, 0])) (y := (fcd Try.f11 [1, 1, 1, 1, 1, 1, 0, 1])) ?_
      refine V_draw Γ [6, 10, 12, 13, 17, 18, 19, 25, 26, 32, 33, 39, 40, 56, 64, 67, 108, 109] [0, 1, 2, 3, 4, 5, 29, 60, 103] mixed (by kernel_rfl) (evs ?_)
      all_goals (try with_reducible (repeat' (first | apply And.intro | intro _)))
      all_goals (try (first | with_reducible refine wa_id ?_ | exact True.intro | omega | exact covers_fn [squareL _ _ _ _] _ [_, _, _] | exact covers_fn [squareL _ _ _ _] _ [_, _] | exact covers_fn [[⟨_, _⟩, ⟨_, _⟩, ⟨_, _⟩]] _ [_, _] | exact covers_fn [squareL _ _ _ _, squareL _ _ _ _] _ [_, _] | exact ctwice_fn (squareL _ _ _ _) | exact ctwice_fn [⟨_, _⟩, ⟨_, _⟩, ⟨_, _⟩] | exact cbox_fn [squareL _ _ _ _] | exact cpaint_fn [squareL _ _ _ _] _ ⟨_, _, _, _⟩ ⟨_, _, _, _⟩ | exact Fn.nil0 1 (ccheck_fn [] _) | exact ccheck_fn [[⟨_, _⟩]] _ | decide +kernel))
      refine V_cond (evs ?_)
      refine ⟨fun hc => ?_, fun hc => ?_⟩
      · refine WA_seq (x := (fcd Try.f11 [1, 1, 1, 1, 1, 1, 0, 1, 0, 0])) (y := (fcd Try.f11 [1, 1, 1, 1, 1, 1, 0, 1, 0, 1])) ?_
        refine V_regionX Γ Δ [6, 10, 12, 13, 17, 18, 19, 25, 26, 32, 33, 39, 40, 56, 64, 67, 108, 109] [0, 1, 2, 3, 4, 5, 29, 60, 103] (evs ?_)
        all_goals (try with_reducible (repeat' (first | apply And.intro | intro _)))
        all_goals (try (first | with_reducible refine wa_id ?_ | exact True.intro | omega | exact covers_fn [squareL _ _ _ _] _ [_, _, _] | exact covers_fn [squareL _ _ _ _] _ [_, _] | exact covers_fn [[⟨_, _⟩, ⟨_, _⟩, ⟨_, _⟩]] _ [_, _] | exact covers_fn [squareL _ _ _ _, squareL _ _ _ _] _ [_, _] | exact ctwice_fn (squareL _ _ _ _) | exact ctwice_fn [⟨_, _⟩, ⟨_, _⟩, ⟨_, _⟩] | exact cbox_fn [squareL _ _ _ _] | exact cpaint_fn [squareL _ _ _ _] _ ⟨_, _, _, _⟩ ⟨_, _, _, _⟩ | exact Fn.nil0 1 (ccheck_fn [] _) | exact ccheck_fn [[⟨_, _⟩]] _ | decide +kernel))
        refine V_ret (evs ?_)
        all_goals (first | exact absurd hc (by decide +kernel) | decide +kernel | rfl)
      · refine WA_skip ?_
        refine WA_seq (x := (fcd Try.f11 [1, 1, 1, 1, 1, 1, 1, 0])) (y := (fcd Try.f11 [1, 1, 1, 1, 1, 1, 1, 1])) ?_
        refine V_regionX Γ Δ [6, 10, 12, 13, 17, 18, 19, 25, 26, 32, 33, 39, 40, 56, 64, 67, 108, 109] [0, 1, 2, 3, 4, 5, 29, 60, 103] (evs ?_)
        all_goals (try with_reducible (repeat' (first | apply And.intro | intro _)))
        all_goals (try (first | with_reducible refine wa_id ?_ | exact True.intro | exact ccheck_fn _ _ | omega | exact covers_fn [squareL _ _ _ _] _ [_, _, _] | exact covers_fn [squareL _ _ _ _] _ [_, _] | exact covers_fn [[⟨_, _⟩, ⟨_, _⟩, ⟨_, _⟩]] _ [_, _] | exact covers_fn [squareL _ _ _ _, squareL _ _ _ _] _ [_, _] | exact ctwice_fn (squareL _ _ _ _) | exact ctwice_fn [⟨_, _⟩, ⟨_, _⟩, ⟨_, _⟩] | exact cbox_fn [squareL _ _ _ _] | exact cpaint_fn [squareL _ _ _ _] _ ⟨_, _, _, _⟩ ⟨_, _, _, _⟩ | exact Fn.nil0 1 (ccheck_fn [] _) | exact ccheck_fn [[⟨_, _⟩]] _ | decide +kernel))
        refine V_ret (evs ?_)
        all_goals (first | exact absurd hc (by decide +kernel) | decide +kernel | rfl)

end Go.S20

