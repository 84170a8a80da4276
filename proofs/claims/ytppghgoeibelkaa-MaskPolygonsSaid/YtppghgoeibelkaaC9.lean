import Derived.Test.YtppghgoeibelkaaLF
import Derived.Test.YtppghgoeibelkaaC8
import Derived.Test.YtppghgoeibelkaaC4
import Derived.Test.YtppghgoeibelkaaB1
set_option linter.unusedSimpArgs false
set_option linter.unusedVariables false
namespace Go.S23
open Go.RowKit Go.Proofs Go.Eng Go.Rect
/-- imageeditor/mask.Polygon -/
theorem poly_fn (w h : Int) (p : List Pt) : Eng.Fn Try.prog 44 [.i w, .i h, .sl 2 (p.map ptC)] (.tup [.agg [.dat (.i (polyR w h p).w), .dat (.i (polyR w h p).h), .own 3 1 ((polyR w h p).v.map iC)], .dat (.i (polyE w h p))]) := by
  refine Eng.Fn.by (fn := Try.f44) 24 [.cell 6 24, .tmp 7] Try.func44 rfl Try.ntmps44 rfl (by simp) fun w0 => ?_
  refine WA_seq (x := (fcd Try.f44 [0])) (y := (fcd Try.f44 [1])) ?_
  refine V_regionX Γ Δ [17] [0, 1, 2, 6, 7, 8, 13] (evs ?_)
  all_goals (try with_reducible (repeat' (first | apply And.intro | intro _)))
  all_goals (try (first | with_reducible refine wa_id ?_ | exact True.intro | omega | exact cmask_fn [p] _ ⟨_, _, _, _⟩))
  refine WA_seq (x := (fcd Try.f44 [1, 0])) (y := (fcd Try.f44 [1, 1])) ?_
  refine WA_seq (x := (fcd Try.f44 [1, 0, 0])) (y := (fcd Try.f44 [1, 0, 1])) ?_
  refine V_regionX Γ Δ [17] [0, 1, 2, 6, 7, 8, 13] (evs ?_)
  all_goals (try with_reducible (repeat' (first | apply And.intro | intro _)))
  all_goals (try (first | with_reducible refine wa_id ?_ | exact True.intro | exact msized_fn _ _ | omega | exact cmask_fn [p] _ ⟨_, _, _, _⟩))
  refine WA_seq (x := (fcd Try.f44 [1, 0, 1, 0])) (y := (fcd Try.f44 [1, 0, 1, 1])) ?_
  refine V_regionX Γ Δ [17] [0, 1, 2, 6, 7, 8, 13] (evs ?_)
  all_goals (try with_reducible (repeat' (first | apply And.intro | intro _)))
  all_goals (try (first | with_reducible refine wa_id ?_ | exact True.intro | omega | exact cmask_fn [p] _ ⟨_, _, _, _⟩))
  refine V_cond (evs ?_)
  refine ⟨fun hc => ?_, fun hc => ?_⟩
  · refine WA_seq (x := (fcd Try.f44 [1, 0, 1, 1, 0, 0])) (y := (fcd Try.f44 [1, 0, 1, 1, 0, 1])) ?_
    refine V_regionX Γ Δ [17] [0, 1, 2, 6, 7, 8, 13] (evs ?_)
    all_goals (try with_reducible (repeat' (first | apply And.intro | intro _)))
    all_goals (try (first | with_reducible refine wa_id ?_ | exact True.intro | omega | exact cmask_fn [p] _ ⟨_, _, _, _⟩))
    refine V_ret (evs ?_)
    first | exact bk0 _ (po1 hc) | exact bk _ (po_T (sized_T.2 (sizedE_0 hc)))
  · refine WA_skip ?_
    refine WA_seq (x := (fcd Try.f44 [1, 1, 0])) (y := (fcd Try.f44 [1, 1, 1])) ?_
    refine V_regionX Γ Δ [17] [0, 1, 2, 6, 7, 8, 13] (evs ?_)
    all_goals (try with_reducible (repeat' (first | apply And.intro | intro _)))
    all_goals (try (first | with_reducible refine wa_id ?_ | exact True.intro | exact cmask_fn _ _ ⟨_, _, _, _⟩ | omega | exact cmask_fn [p] _ ⟨_, _, _, _⟩))
    refine V_ret (evs ?_)
    first | exact bk0 _ (po1 hc) | exact bk _ (po_T (sized_T.2 (sizedE_0 hc)))

/-- imageeditor/imageeditorref23.Polygon -/
theorem rpoly_fn (w h : Int) (p : List Pt) : Eng.Fn Try.prog 45 [.i w, .i h, .sl 2 (p.map ptC)] (.tup [.agg [.dat (.i (polyR w h p).w), .dat (.i (polyR w h p).h), .own 3 1 ((polyR w h p).v.map iC)], .dat (.i (polyE w h p))]) := by
  refine Eng.Fn.by (fn := Try.f45) 21 [.cell 6 24, .tmp 7] Try.func45 rfl Try.ntmps45 rfl (by simp) fun w0 => ?_
  refine WA_seq (x := (fcd Try.f45 [0])) (y := (fcd Try.f45 [1])) ?_
  refine V_regionX Γ Δ [14] [0, 1, 2, 6, 7, 11] (evs ?_)
  all_goals (try with_reducible (repeat' (first | apply And.intro | intro _)))
  all_goals (try (first | with_reducible refine wa_id ?_ | exact True.intro | omega | exact rmask_fn [p] _ ⟨_, _, _, _⟩))
  refine WA_seq (x := (fcd Try.f45 [1, 0])) (y := (fcd Try.f45 [1, 1])) ?_
  refine WA_seq (x := (fcd Try.f45 [1, 0, 0])) (y := (fcd Try.f45 [1, 0, 1])) ?_
  refine V_regionX Γ Δ [14] [0, 1, 2, 6, 7, 11] (evs ?_)
  all_goals (try with_reducible (repeat' (first | apply And.intro | intro _)))
  all_goals (try (first | with_reducible refine wa_id ?_ | exact True.intro | exact rsized_fn _ _ | omega | exact rmask_fn [p] _ ⟨_, _, _, _⟩))
  refine V_cond (evs ?_)
  refine ⟨fun hc => ?_, fun hc => ?_⟩
  · refine WA_seq (x := (fcd Try.f45 [1, 0, 1, 0, 0])) (y := (fcd Try.f45 [1, 0, 1, 0, 1])) ?_
    refine V_regionX Γ Δ [14] [0, 1, 2, 6, 7, 11] (evs ?_)
    all_goals (try with_reducible (repeat' (first | apply And.intro | intro _)))
    all_goals (try (first | with_reducible refine wa_id ?_ | exact True.intro | omega | exact rmask_fn [p] _ ⟨_, _, _, _⟩))
    refine V_ret (evs ?_)
    first | exact bk0 _ (po2 hc) | exact bk _ (po_T hc)
  · refine WA_skip ?_
    refine WA_seq (x := (fcd Try.f45 [1, 1, 0])) (y := (fcd Try.f45 [1, 1, 1])) ?_
    refine V_regionX Γ Δ [14] [0, 1, 2, 6, 7, 11] (evs ?_)
    all_goals (try with_reducible (repeat' (first | apply And.intro | intro _)))
    all_goals (try (first | with_reducible refine wa_id ?_ | exact True.intro | exact rmask_fn _ _ ⟨_, _, _, _⟩ | omega | exact rmask_fn [p] _ ⟨_, _, _, _⟩))
    refine V_ret (evs ?_)
    first | exact bk0 _ (po2 hc) | exact bk _ (po_T hc)

end Go.S23

