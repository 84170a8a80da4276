import Derived.Test.YtppghgoeibelkaaLE
import Derived.Test.YtppghgoeibelkaaF23
set_option linter.unusedSimpArgs false
set_option linter.unusedVariables false
namespace Go.S23
open Go.RowKit Go.Proofs Go.Eng Go.Rect
/-- imageeditor/imageeditorlaw23.sameMask -/
theorem sameM_fn (a b : Mk) : Eng.Fn Try.prog 23 [mkD a, mkD b] (.dat (.b (sameM a b))) := by
  refine Eng.Fn.by (fn := Try.f23) 45 [.tmp 4] Try.func23 rfl Try.ntmps23 rfl (by simp) fun w0 => ?_
  refine WA_seq (x := (fcd Try.f23 [0])) (y := (fcd Try.f23 [1])) ?_
  refine V_regionX Γ Δ [] [0, 1, 2, 3, 4, 5, 26, 29, 30, 31, 43] (evs ?_)
  all_goals (try with_reducible (repeat' (first | apply And.intro | intro _)))
  all_goals (try (first | with_reducible refine wa_id ?_ | exact True.intro | omega))
  refine WA_seq (x := (fcd Try.f23 [1, 0])) (y := (fcd Try.f23 [1, 1])) ?_
  refine WA_seq (x := (fcd Try.f23 [1, 0, 0])) (y := (fcd Try.f23 [1, 0, 1])) ?_
  refine V_regionX Γ Δ [] [0, 1, 2, 3, 4, 5, 26, 29, 30, 31, 43] (evs ?_)
  all_goals (try with_reducible (repeat' (first | apply And.intro | intro _)))
  all_goals (try (first | with_reducible refine wa_id ?_ | exact True.intro | omega))
  refine V_cond (evs ?_)
  refine ⟨fun hc => ?_, fun hc => ?_⟩
  · refine WA_seq (x := (fcd Try.f23 [1, 0, 1, 0, 0])) (y := (fcd Try.f23 [1, 0, 1, 0, 1])) ?_
    refine V_regionX Γ Δ [] [0, 1, 2, 3, 4, 5, 26, 29, 30, 31, 43] (evs ?_)
    all_goals (try with_reducible (repeat' (first | apply And.intro | intro _)))
    all_goals (try (first | with_reducible refine wa_id ?_ | exact True.intro | omega))
    refine V_ret (evs ?_)
    first | exact sm_1 hc | exact sm_2 hc | exact sm_3 ‹_› hI.2 hc
  · refine WA_skip ?_
    refine WA_seq (x := (fcd Try.f23 [1, 1, 0])) (y := (fcd Try.f23 [1, 1, 1])) ?_
    refine WA_seq (x := (fcd Try.f23 [1, 1, 0, 0])) (y := (fcd Try.f23 [1, 1, 0, 1])) ?_
    refine V_regionX Γ Δ [] [0, 1, 2, 3, 4, 5, 26, 29, 30, 31, 43] (evs ?_)
    all_goals (try with_reducible (repeat' (first | apply And.intro | intro _)))
    all_goals (try (first | with_reducible refine wa_id ?_ | exact True.intro | omega))
    refine WA_block (c := (fcd Try.f23 [1, 1, 0, 1, 0])) ?_
    refine V_loop (c := (fcd Try.f23 [1, 1, 0, 1, 0, 0])) (α := Nat) [4, 5, 30, 31, 43] [] (fun k => [(30, .dat (.i (k : Int)))]) (fun k => []) (fun k => k ≤ a.v.length ∧ ∀ j, j < k → a.v.getD j 0 = b.v.getD j 0) (fun k => a.v.length - k) 0 [] ?_ (evs ?_) ?_
    · exact ⟨Nat.zero_le _, fun j hj => by omega⟩
    · (try with_reducible (repeat' (first | apply And.intro | intro _)))
      all_goals (first | exact True.intro | omega | (rfl))
    · intro k hI
      refine WA_seq (x := (fcd Try.f23 [1, 1, 0, 1, 0, 0, 0])) (y := (fcd Try.f23 [1, 1, 0, 1, 0, 0, 1])) ?_
      refine V_regionX Γ Δ [] [0, 1, 2, 3, 4, 5, 26, 29, 30, 31, 43] (evs ?_)
      all_goals (try with_reducible (repeat' (first | apply And.intro | intro _)))
      all_goals (try (first | with_reducible refine wa_id ?_ | exact True.intro | omega))
      refine WA_seq (x := (fcd Try.f23 [1, 1, 0, 1, 0, 0, 1, 0])) (y := (fcd Try.f23 [1, 1, 0, 1, 0, 0, 1, 1])) ?_
      refine V_cond (evs ?_)
      refine ⟨fun hc => ?_, fun hc => ?_⟩
      · refine WA_skip ?_
        refine WA_seq (x := (fcd Try.f23 [1, 1, 0, 1, 0, 0, 1, 1, 0])) (y := (fcd Try.f23 [1, 1, 0, 1, 0, 0, 1, 1, 1])) ?_
        refine WA_block (c := (fcd Try.f23 [1, 1, 0, 1, 0, 0, 1, 1, 0, 0])) ?_
        refine WA_seq (x := (fcd Try.f23 [1, 1, 0, 1, 0, 0, 1, 1, 0, 0, 0])) (y := (fcd Try.f23 [1, 1, 0, 1, 0, 0, 1, 1, 0, 0, 1])) ?_
        refine V_regionX Γ Δ [] [0, 1, 2, 3, 4, 5, 26, 29, 30, 31, 43] (evs ?_)
        all_goals (try with_reducible (repeat' (first | apply And.intro | intro _)))
        all_goals (try (first | with_reducible refine wa_id ?_ | exact True.intro | omega))
        refine WA_seq (x := (fcd Try.f23 [1, 1, 0, 1, 0, 0, 1, 1, 0, 0, 1, 0])) (y := (fcd Try.f23 [1, 1, 0, 1, 0, 0, 1, 1, 0, 0, 1, 1])) ?_
        refine V_draw Γ [] [0, 1, 2, 3, 4, 5, 26, 29, 30, 31, 43] mixed (by kernel_rfl) (evs ?_)
        all_goals (try with_reducible (repeat' (first | apply And.intro | intro _)))
        all_goals (try (first | with_reducible refine wa_id ?_ | exact True.intro | omega))
        refine V_cond (evs ?_)
        refine ⟨fun hc => ?_, fun hc => ?_⟩
        · refine WA_seq (x := (fcd Try.f23 [1, 1, 0, 1, 0, 0, 1, 1, 0, 0, 1, 1, 0, 0])) (y := (fcd Try.f23 [1, 1, 0, 1, 0, 0, 1, 1, 0, 0, 1, 1, 0, 1])) ?_
          refine V_regionX Γ Δ [] [0, 1, 2, 3, 4, 5, 26, 29, 30, 31, 43] (evs ?_)
          all_goals (try with_reducible (repeat' (first | apply And.intro | intro _)))
          all_goals (try (first | with_reducible refine wa_id ?_ | exact True.intro | omega))
          refine V_ret (evs ?_)
          first | exact sm_1 hc | exact sm_2 hc | exact sm_3 ‹_› hI.2 hc
        · refine WA_skip ?_
          refine V_regionX Γ Δ [] [0, 1, 2, 3, 4, 5, 26, 29, 30, 31, 43] (evs ?_)
          all_goals (try with_reducible (repeat' (first | apply And.intro | intro _)))
          all_goals (try (first | with_reducible refine wa_id ?_ | exact True.intro | omega))
          refine V_next [] (k + 1) (evs ?_) ?_ ?_
          all_goals (try with_reducible (repeat' (first | apply And.intro | intro _)))
          all_goals (first | exact True.intro | omega | (first | exact w64l ‹(k : Int) < _› ‹a.v.length ≤ 281474976710656› | exact sm_4 hI.2 hc _ ‹_›))
      · refine V_exit (evs ?_)
        refine WA_seq (x := (fcd Try.f23 [1, 1, 1, 0])) (y := (fcd Try.f23 [1, 1, 1, 1])) ?_
        refine V_regionX Γ Δ [] [0, 1, 2, 3, 4, 5, 26, 29, 30, 31, 43] (evs ?_)
        all_goals (try with_reducible (repeat' (first | apply And.intro | intro _)))
        all_goals (try (first | with_reducible refine wa_id ?_ | exact True.intro | omega))
        refine V_ret (evs ?_)
        first | exact sm_1 hc | exact sm_2 hc | exact sm_3 ‹_› hI.2 hc

/-- imageeditor/imageeditorlaw23.same -/
theorem sameI_fn (a b : Im) : Eng.Fn Try.prog 32 [imD a, imD b] (.dat (.b (sameI a b))) := by
  refine Eng.Fn.by (fn := Try.f32) 45 [.tmp 4] Try.func32 rfl Try.ntmps32 rfl (by simp) fun w0 => ?_
  refine WA_seq (x := (fcd Try.f32 [0])) (y := (fcd Try.f32 [1])) ?_
  refine V_regionX Γ Δ [] [0, 1, 2, 3, 4, 5, 26, 29, 30, 31, 43] (evs ?_)
  all_goals (try with_reducible (repeat' (first | apply And.intro | intro _)))
  all_goals (try (first | with_reducible refine wa_id ?_ | exact True.intro | omega))
  refine WA_seq (x := (fcd Try.f32 [1, 0])) (y := (fcd Try.f32 [1, 1])) ?_
  refine WA_seq (x := (fcd Try.f32 [1, 0, 0])) (y := (fcd Try.f32 [1, 0, 1])) ?_
  refine V_regionX Γ Δ [] [0, 1, 2, 3, 4, 5, 26, 29, 30, 31, 43] (evs ?_)
  all_goals (try with_reducible (repeat' (first | apply And.intro | intro _)))
  all_goals (try (first | with_reducible refine wa_id ?_ | exact True.intro | omega))
  refine V_cond (evs ?_)
  refine ⟨fun hc => ?_, fun hc => ?_⟩
  · refine WA_seq (x := (fcd Try.f32 [1, 0, 1, 0, 0])) (y := (fcd Try.f32 [1, 0, 1, 0, 1])) ?_
    refine V_regionX Γ Δ [] [0, 1, 2, 3, 4, 5, 26, 29, 30, 31, 43] (evs ?_)
    all_goals (try with_reducible (repeat' (first | apply And.intro | intro _)))
    all_goals (try (first | with_reducible refine wa_id ?_ | exact True.intro | omega))
    refine V_ret (evs ?_)
    first | exact si_1 hc | exact si_2x (px_neB hc) | exact si_3 ‹_› hI.2 hc
  · refine WA_skip ?_
    refine WA_seq (x := (fcd Try.f32 [1, 1, 0])) (y := (fcd Try.f32 [1, 1, 1])) ?_
    refine WA_seq (x := (fcd Try.f32 [1, 1, 0, 0])) (y := (fcd Try.f32 [1, 1, 0, 1])) ?_
    refine V_regionX Γ Δ [] [0, 1, 2, 3, 4, 5, 26, 29, 30, 31, 43] (evs ?_)
    all_goals (try with_reducible (repeat' (first | apply And.intro | intro _)))
    all_goals (try (first | with_reducible refine wa_id ?_ | exact True.intro | omega))
    refine WA_block (c := (fcd Try.f32 [1, 1, 0, 1, 0])) ?_
    refine V_loop (c := (fcd Try.f32 [1, 1, 0, 1, 0, 0])) (α := Nat) [4, 5, 30, 31, 43] [] (fun k => [(30, .dat (.i (k : Int)))]) (fun k => []) (fun k => k ≤ a.p.length ∧ ∀ j, j < k → a.p.getD j zP = b.p.getD j zP) (fun k => a.p.length - k) 0 [] ?_ (evs ?_) ?_
    · exact ⟨Nat.zero_le _, fun j hj => by omega⟩
    · (try with_reducible (repeat' (first | apply And.intro | intro _)))
      all_goals (first | exact True.intro | omega | (rfl))
    · intro k hI
      refine WA_seq (x := (fcd Try.f32 [1, 1, 0, 1, 0, 0, 0])) (y := (fcd Try.f32 [1, 1, 0, 1, 0, 0, 1])) ?_
      refine V_regionX Γ Δ [] [0, 1, 2, 3, 4, 5, 26, 29, 30, 31, 43] (evs ?_)
      all_goals (try with_reducible (repeat' (first | apply And.intro | intro _)))
      all_goals (try (first | with_reducible refine wa_id ?_ | exact True.intro | omega))
      refine WA_seq (x := (fcd Try.f32 [1, 1, 0, 1, 0, 0, 1, 0])) (y := (fcd Try.f32 [1, 1, 0, 1, 0, 0, 1, 1])) ?_
      refine V_cond (evs ?_)
      refine ⟨fun hc => ?_, fun hc => ?_⟩
      · refine WA_skip ?_
        refine WA_seq (x := (fcd Try.f32 [1, 1, 0, 1, 0, 0, 1, 1, 0])) (y := (fcd Try.f32 [1, 1, 0, 1, 0, 0, 1, 1, 1])) ?_
        refine WA_block (c := (fcd Try.f32 [1, 1, 0, 1, 0, 0, 1, 1, 0, 0])) ?_
        refine WA_seq (x := (fcd Try.f32 [1, 1, 0, 1, 0, 0, 1, 1, 0, 0, 0])) (y := (fcd Try.f32 [1, 1, 0, 1, 0, 0, 1, 1, 0, 0, 1])) ?_
        refine V_regionX Γ Δ [] [0, 1, 2, 3, 4, 5, 26, 29, 30, 31, 43] (evs ?_)
        all_goals (try with_reducible (repeat' (first | apply And.intro | intro _)))
        all_goals (try (first | with_reducible refine wa_id ?_ | exact True.intro | omega))
        refine WA_seq (x := (fcd Try.f32 [1, 1, 0, 1, 0, 0, 1, 1, 0, 0, 1, 0])) (y := (fcd Try.f32 [1, 1, 0, 1, 0, 0, 1, 1, 0, 0, 1, 1])) ?_
        refine V_draw Γ [] [0, 1, 2, 3, 4, 5, 26, 29, 30, 31, 43] mixed (by kernel_rfl) (evs ?_)
        all_goals (try with_reducible (repeat' (first | apply And.intro | intro _)))
        all_goals (try (first | with_reducible refine wa_id ?_ | exact True.intro | omega))
        refine V_cond (evs ?_)
        refine ⟨fun hc => ?_, fun hc => ?_⟩
        · refine WA_seq (x := (fcd Try.f32 [1, 1, 0, 1, 0, 0, 1, 1, 0, 0, 1, 1, 0, 0])) (y := (fcd Try.f32 [1, 1, 0, 1, 0, 0, 1, 1, 0, 0, 1, 1, 0, 1])) ?_
          refine V_regionX Γ Δ [] [0, 1, 2, 3, 4, 5, 26, 29, 30, 31, 43] (evs ?_)
          all_goals (try with_reducible (repeat' (first | apply And.intro | intro _)))
          all_goals (try (first | with_reducible refine wa_id ?_ | exact True.intro | omega))
          refine V_ret (evs ?_)
          first | exact si_1 hc | exact si_2x (px_neB hc) | exact si_3 ‹_› hI.2 hc
        · refine WA_skip ?_
          refine V_regionX Γ Δ [] [0, 1, 2, 3, 4, 5, 26, 29, 30, 31, 43] (evs ?_)
          all_goals (try with_reducible (repeat' (first | apply And.intro | intro _)))
          all_goals (try (first | with_reducible refine wa_id ?_ | exact True.intro | omega))
          refine V_next [] (k + 1) (evs ?_) ?_ ?_
          all_goals (try with_reducible (repeat' (first | apply And.intro | intro _)))
          all_goals (first | exact True.intro | omega | (first | exact w64l ‹(k : Int) < _› ‹a.p.length ≤ 281474976710656› | exact si_4x hI.2 (px_eq hc) _ ‹_›))
      · refine V_exit (evs ?_)
        refine WA_seq (x := (fcd Try.f32 [1, 1, 1, 0])) (y := (fcd Try.f32 [1, 1, 1, 1])) ?_
        refine V_regionX Γ Δ [] [0, 1, 2, 3, 4, 5, 26, 29, 30, 31, 43] (evs ?_)
        all_goals (try with_reducible (repeat' (first | apply And.intro | intro _)))
        all_goals (try (first | with_reducible refine wa_id ?_ | exact True.intro | omega))
        refine V_ret (evs ?_)
        first | exact si_1 hc | exact si_2x (px_neB hc) | exact si_3 ‹_› hI.2 hc

/-- imageeditor/imageeditorlaw23.is -/
theorem is_fn (m : Mk) (e : Int) (w : Mk) : Eng.Fn Try.prog 33 [mkD m, .i e, mkD w] (.dat (.b (e == 0 && sameM m w))) := by
  refine Eng.Fn.by (fn := Try.f33) 14 [.tmp 6] Try.func33 rfl Try.ntmps33 rfl (by simp) fun w0 => ?_
  refine WA_seq (x := (fcd Try.f33 [0])) (y := (fcd Try.f33 [1])) ?_
  refine V_regionX Γ Δ [] [0, 1, 2, 3, 5, 6] (evs ?_)
  all_goals (try with_reducible (repeat' (first | apply And.intro | intro _)))
  all_goals (try (first | with_reducible refine wa_id ?_ | exact True.intro | omega))
  refine WA_seq (x := (fcd Try.f33 [1, 0])) (y := (fcd Try.f33 [1, 1])) ?_
  refine V_regionX Γ Δ [] [0, 1, 2, 3, 5, 6] (evs ?_)
  all_goals (try with_reducible (repeat' (first | apply And.intro | intro _)))
  all_goals (try (first | with_reducible refine wa_id ?_ | exact True.intro | exact sameM_fn ⟨_, _, _⟩ ⟨_, _, _⟩ | omega))
  refine V_ret (evs ?_)
  first | exact True.intro | rfl

/-- imageeditor/imageeditorlaw23.row -/
theorem row_v (s : Option Addr) (n c : Nat) : Eng.Fn Try.prog 61 [.v (.slice s n c)] (.dat (.agg [.i (n : Int), .i 1, .v (.slice s n c)])) := by
  refine Eng.Fn.by (fn := Try.f61) 7 [.cell 2 24] Try.func61 rfl Try.ntmps61 rfl (by simp) fun w0 => ?_
  refine WA_seq (x := (fcd Try.f61 [0])) (y := (fcd Try.f61 [1])) ?_
  refine V_regionX Γ Δ [] [0, 2] (evs ?_)
  all_goals (try with_reducible (repeat' (first | apply And.intro | intro _)))
  all_goals (try (first | with_reducible refine wa_id ?_ | exact True.intro | omega))
  refine WA_seq (x := (fcd Try.f61 [1, 0])) (y := (fcd Try.f61 [1, 1])) ?_
  refine V_regionX Γ Δ [] [0, 2] (evs ?_)
  all_goals (try with_reducible (repeat' (first | apply And.intro | intro _)))
  all_goals (try (first | with_reducible refine wa_id ?_ | exact True.intro | omega))
  refine V_ret (evs ?_)
  first | exact True.intro | rfl | exact ⟨rfl, rfl⟩

end Go.S23

