import Derived.Test.YtgfebadcjjifdaaA15
namespace Go.S20
open Go.RowKit Go.Proofs Go.Eng Go.Rect
/-- imageeditor/imageeditorlaw20.CoverPaints -/
theorem l_paints (ps : List (List Pt)) (rule : Int) (c : Px) (r : Rc) : Eng.Fn Try.prog 5 [.sl 1 (ps.map plyC), .i rule, pxD c, rcD r] (.dat (.b true)) := by
  refine Eng.Fn.by (fn := Try.f5) 78 [.tmp 8] Try.func5 rfl Try.ntmps5 rfl (by simp) fun w0 => ?_
  refine WA_seq (x := (fcd Try.f5 [0])) (y := (fcd Try.f5 [1])) ?_
  refine V_regionX Γ Δ [19, 27] [0, 1, 2, 3, 6, 7, 8, 9, 10, 11, 12, 13, 59, 62, 63, 64, 76] (evs ?_)
  all_goals (try with_reducible (repeat' (first | apply And.intro | intro _)))
  all_goals (try (first | with_reducible refine wa_id ?_ | exact True.intro | omega))
  refine WA_seq (x := (fcd Try.f5 [1, 0])) (y := (fcd Try.f5 [1, 1])) ?_
  refine V_regionX Γ Δ [19, 27] [0, 1, 2, 3, 6, 7, 8, 9, 10, 11, 12, 13, 59, 62, 63, 64, 76] (evs ?_)
  all_goals (try with_reducible (repeat' (first | apply And.intro | intro _)))
  all_goals (try (first | with_reducible refine wa_id ?_ | exact True.intro | exact cpaint_fn _ _ ⟨_, _, _, _⟩ ⟨_, _, _, _⟩ | omega))
  refine WA_seq (x := (fcd Try.f5 [1, 1, 0])) (y := (fcd Try.f5 [1, 1, 1])) ?_
  refine V_regionX Γ Δ [19, 27] [0, 1, 2, 3, 6, 7, 8, 9, 10, 11, 12, 13, 59, 62, 63, 64, 76] (evs ?_)
  all_goals (try with_reducible (repeat' (first | apply And.intro | intro _)))
  all_goals (try (first | with_reducible refine wa_id ?_ | exact True.intro | exact rpaint_fn _ _ ⟨_, _, _, _⟩ ⟨_, _, _, _⟩ | omega))
  refine WA_seq (x := (fcd Try.f5 [1, 1, 1, 0])) (y := (fcd Try.f5 [1, 1, 1, 1])) ?_
  refine WA_seq (x := (fcd Try.f5 [1, 1, 1, 0, 0])) (y := (fcd Try.f5 [1, 1, 1, 0, 1])) ?_
  refine V_regionX Γ Δ [19, 27] [0, 1, 2, 3, 6, 7, 8, 9, 10, 11, 12, 13, 59, 62, 63, 64, 76] (evs ?_)
  all_goals (try with_reducible (repeat' (first | apply And.intro | intro _)))
  all_goals (try (first | with_reducible refine wa_id ?_ | exact True.intro | exact awake_fn | omega))
  refine V_cond (evs ?_)
  refine ⟨fun hc => hc.elim, ?_⟩
  refine WA_skip ?_
  refine WA_seq (x := (fcd Try.f5 [1, 1, 1, 1, 0])) (y := (fcd Try.f5 [1, 1, 1, 1, 1])) ?_
  refine WA_seq (x := (fcd Try.f5 [1, 1, 1, 1, 0, 0])) (y := (fcd Try.f5 [1, 1, 1, 1, 0, 1])) ?_
  refine V_regionX Γ Δ [19, 27] [0, 1, 2, 3, 6, 7, 8, 9, 10, 11, 12, 13, 59, 62, 63, 64, 76] (evs ?_)
  all_goals (try with_reducible (repeat' (first | apply And.intro | intro _)))
  all_goals (try (first | with_reducible refine wa_id ?_ | exact True.intro | omega))
  refine WA_block (c := (fcd Try.f5 [1, 1, 1, 1, 0, 1, 0])) ?_
  refine V_loop (c := (fcd Try.f5 [1, 1, 1, 1, 0, 1, 0, 0])) (α := Nat) [8, 13, 63, 64, 76] [] (fun k => [(63, .dat (.i (k : Int)))]) (fun k => []) (fun k => k ≤ (paintR ps rule c r).p.length) (fun k => (paintR ps rule c r).p.length - k) 0 [] ?_ (evs ?_) ?_
  · exact Nat.zero_le _
  · (try with_reducible (repeat' (first | apply And.intro | intro _)))
    all_goals (first | exact True.intro | omega | (first | rfl))
  · intro k hI
    refine WA_seq (x := (fcd Try.f5 [1, 1, 1, 1, 0, 1, 0, 0, 0])) (y := (fcd Try.f5 [1, 1, 1, 1, 0, 1, 0, 0, 1])) ?_
    refine V_regionX Γ Δ [19, 27] [0, 1, 2, 3, 6, 7, 8, 9, 10, 11, 12, 13, 59, 62, 63, 64, 76] (evs ?_)
    all_goals (try with_reducible (repeat' (first | apply And.intro | intro _)))
    all_goals (try (first | with_reducible refine wa_id ?_ | exact True.intro | omega))
    refine WA_seq (x := (fcd Try.f5 [1, 1, 1, 1, 0, 1, 0, 0, 1, 0])) (y := (fcd Try.f5 [1, 1, 1, 1, 0, 1, 0, 0, 1, 1])) ?_
    refine V_cond (evs ?_)
    refine ⟨fun hc => ?_, fun hc => ?_⟩
    · refine WA_skip ?_
      refine WA_seq (x := (fcd Try.f5 [1, 1, 1, 1, 0, 1, 0, 0, 1, 1, 0])) (y := (fcd Try.f5 [1, 1, 1, 1, 0, 1, 0, 0, 1, 1, 1])) ?_
      refine WA_block (c := (fcd Try.f5 [1, 1, 1, 1, 0, 1, 0, 0, 1, 1, 0, 0])) ?_
      refine WA_seq (x := (fcd Try.f5 [1, 1, 1, 1, 0, 1, 0, 0, 1, 1, 0, 0, 0])) (y := (fcd Try.f5 [1, 1, 1, 1, 0, 1, 0, 0, 1, 1, 0, 0, 1])) ?_
      refine V_regionX Γ Δ [19, 27] [0, 1, 2, 3, 6, 7, 8, 9, 10, 11, 12, 13, 59, 62, 63, 64, 76] (evs ?_)
      all_goals (try with_reducible (repeat' (first | apply And.intro | intro _)))
      all_goals (try (first | with_reducible refine wa_id ?_ | exact True.intro | omega))
      refine WA_seq (x := (fcd Try.f5 [1, 1, 1, 1, 0, 1, 0, 0, 1, 1, 0, 0, 1, 0])) (y := (fcd Try.f5 [1, 1, 1, 1, 0, 1, 0, 0, 1, 1, 0, 0, 1, 1])) ?_
      refine V_draw Γ [19, 27] [0, 1, 2, 3, 6, 7, 8, 9, 10, 11, 12, 13, 59, 62, 63, 64, 76] mixed (by kernel_rfl) (evs ?_)
      all_goals (try with_reducible (repeat' (first | apply And.intro | intro _)))
      all_goals (try (first | with_reducible refine wa_id ?_ | exact True.intro | omega))
      refine V_cond (evs ?_)
      refine ⟨fun hc => hc.elim, ?_⟩
      refine WA_skip ?_
      refine V_regionX Γ Δ [19, 27] [0, 1, 2, 3, 6, 7, 8, 9, 10, 11, 12, 13, 59, 62, 63, 64, 76] (evs ?_)
      all_goals (try with_reducible (repeat' (first | apply And.intro | intro _)))
      all_goals (try (first | with_reducible refine wa_id ?_ | exact True.intro | omega))
      refine V_next [] (k + 1) (evs ?_) ?_ ?_
      all_goals (try with_reducible (repeat' (first | apply And.intro | intro _)))
      all_goals (first | exact True.intro | omega | (exact w64l ‹(k : Int) < _› ‹(paintR ps rule c r).p.length ≤ 281474976710656›))
    · refine V_exit (evs ?_)
      refine WA_seq (x := (fcd Try.f5 [1, 1, 1, 1, 1, 0])) (y := (fcd Try.f5 [1, 1, 1, 1, 1, 1])) ?_
      refine V_regionX Γ Δ [19, 27] [0, 1, 2, 3, 6, 7, 8, 9, 10, 11, 12, 13, 59, 62, 63, 64, 76] (evs ?_)
      all_goals (try with_reducible (repeat' (first | apply And.intro | intro _)))
      all_goals (try (first | with_reducible refine wa_id ?_ | exact True.intro | omega))
      refine V_ret (evs ?_)
      first | exact True.intro

end Go.S20

