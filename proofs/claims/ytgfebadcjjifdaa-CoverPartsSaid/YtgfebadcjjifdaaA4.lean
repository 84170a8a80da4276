import Derived.Test.YtgfebadcjjifdaaA3
import Derived.Test.YtgfebadcjjifdaaLB
namespace Go.S20
open Go.RowKit Go.Proofs Go.Eng Go.Rect
/-- imageeditor/cover.Twice -/
theorem ctwice_fn (p : List Pt) : Eng.Fn Try.prog 16 [.sl 2 (p.map ptC)] (.dat (.i (twiceI p))) := by
  refine Eng.Fn.by (fn := Try.f16) 41 [.tmp 2] Try.func16 rfl Try.ntmps16 rfl (by simp) fun w0 => ?_
  refine WA_seq (x := (fcd Try.f16 [0])) (y := (fcd Try.f16 [1])) ?_
  refine V_regionX Γ Δ [] [0, 2, 3, 4, 5, 6, 10, 11, 12, 13, 14] (evs ?_)
  all_goals (try with_reducible (repeat' (first | apply And.intro | intro _)))
  all_goals (try (first | with_reducible refine wa_id ?_ | exact True.intro | omega | exact ccheck_fn [p] 0 | exact nx2 ‹_› | exact nx3))
  refine WA_seq (x := (fcd Try.f16 [1, 0])) (y := (fcd Try.f16 [1, 1])) ?_
  refine WA_seq (x := (fcd Try.f16 [1, 0, 0])) (y := (fcd Try.f16 [1, 0, 1])) ?_
  refine V_regionX Γ Δ [] [0, 2, 3, 4, 5, 6, 10, 11, 12, 13, 14] (evs ?_)
  all_goals (try with_reducible (repeat' (first | apply And.intro | intro _)))
  all_goals (try (first | with_reducible refine wa_id ?_ | exact True.intro | exact ccheck_fn _ _ | omega | exact ccheck_fn [p] 0 | exact nx2 ‹_› | exact nx3))
  refine V_cond (evs ?_)
  refine ⟨fun hc => ?_, fun hc => ?_⟩
  · refine WA_seq (x := (fcd Try.f16 [1, 0, 1, 0, 0])) (y := (fcd Try.f16 [1, 0, 1, 0, 1])) ?_
    refine V_regionX Γ Δ [] [0, 2, 3, 4, 5, 6, 10, 11, 12, 13, 14] (evs ?_)
    all_goals (try with_reducible (repeat' (first | apply And.intro | intro _)))
    all_goals (try (first | with_reducible refine wa_id ?_ | exact True.intro | omega | exact ccheck_fn [p] 0 | exact nx2 ‹_› | exact nx3))
    refine V_ret (evs ?_)
    first | exact tc2 hc | exact tc3 ‹_› hI hc
  · refine WA_skip ?_
    refine WA_seq (x := (fcd Try.f16 [1, 1, 0])) (y := (fcd Try.f16 [1, 1, 1])) ?_
    refine V_regionX Γ Δ [] [0, 2, 3, 4, 5, 6, 10, 11, 12, 13, 14] (evs ?_)
    all_goals (try with_reducible (repeat' (first | apply And.intro | intro _)))
    all_goals (try (first | with_reducible refine wa_id ?_ | exact True.intro | omega | exact ccheck_fn [p] 0 | exact nx2 ‹_› | exact nx3))
    refine WA_seq (x := (fcd Try.f16 [1, 1, 1, 0])) (y := (fcd Try.f16 [1, 1, 1, 1])) ?_
    refine WA_seq (x := (fcd Try.f16 [1, 1, 1, 0, 0])) (y := (fcd Try.f16 [1, 1, 1, 0, 1])) ?_
    refine V_regionX Γ Δ [] [0, 2, 3, 4, 5, 6, 10, 11, 12, 13, 14] (evs ?_)
    all_goals (try with_reducible (repeat' (first | apply And.intro | intro _)))
    all_goals (try (first | with_reducible refine wa_id ?_ | exact True.intro | omega | exact ccheck_fn [p] 0 | exact nx2 ‹_› | exact nx3))
    refine WA_block (c := (fcd Try.f16 [1, 1, 1, 0, 1, 0])) ?_
    refine V_loop (c := (fcd Try.f16 [1, 1, 1, 0, 1, 0, 0])) (α := Nat) [3, 4, 5, 6, 13, 14] [5, 6] (fun k => [(13, .dat (.i (k : Int))), (3, .dat (.i (twiceK p k)))]) (fun k => []) (fun k => k ≤ p.length) (fun k => p.length - k) 0 [] ?_ (evs ?_) ?_
    · exact Nat.zero_le _
    · (try with_reducible (repeat' (first | apply And.intro | intro _)))
      all_goals (first | exact True.intro | omega | (simp [twiceK]))
    · intro k hI
      refine WA_seq (x := (fcd Try.f16 [1, 1, 1, 0, 1, 0, 0, 0])) (y := (fcd Try.f16 [1, 1, 1, 0, 1, 0, 0, 1])) ?_
      refine V_regionX Γ Δ [] [0, 2, 3, 4, 5, 6, 10, 11, 12, 13, 14] (evs ?_)
      all_goals (try with_reducible (repeat' (first | apply And.intro | intro _)))
      all_goals (try (first | with_reducible refine wa_id ?_ | exact True.intro | omega | exact ccheck_fn [p] 0 | exact nx2 ‹_› | exact nx3))
      refine WA_seq (x := (fcd Try.f16 [1, 1, 1, 0, 1, 0, 0, 1, 0])) (y := (fcd Try.f16 [1, 1, 1, 0, 1, 0, 0, 1, 1])) ?_
      refine V_cond (evs ?_)
      refine ⟨fun hc => ?_, fun hc => ?_⟩
      · refine WA_skip ?_
        refine WA_seq (x := (fcd Try.f16 [1, 1, 1, 0, 1, 0, 0, 1, 1, 0])) (y := (fcd Try.f16 [1, 1, 1, 0, 1, 0, 0, 1, 1, 1])) ?_
        refine WA_block (c := (fcd Try.f16 [1, 1, 1, 0, 1, 0, 0, 1, 1, 0, 0])) ?_
        refine WA_seq (x := (fcd Try.f16 [1, 1, 1, 0, 1, 0, 0, 1, 1, 0, 0, 0])) (y := (fcd Try.f16 [1, 1, 1, 0, 1, 0, 0, 1, 1, 0, 0, 1])) ?_
        refine V_regionX Γ Δ [] [0, 2, 3, 4, 5, 6, 10, 11, 12, 13, 14] (evs ?_)
        all_goals (try with_reducible (repeat' (first | apply And.intro | intro _)))
        all_goals (try (first | with_reducible refine wa_id ?_ | exact True.intro | omega | exact ccheck_fn [p] 0 | exact nx2 ‹_› | exact nx3))
        refine WA_seq (x := (fcd Try.f16 [1, 1, 1, 0, 1, 0, 0, 1, 1, 0, 0, 1, 0])) (y := (fcd Try.f16 [1, 1, 1, 0, 1, 0, 0, 1, 1, 0, 0, 1, 1])) ?_
        refine V_regionX Γ Δ [] [0, 2, 3, 4, 5, 6, 10, 11, 12, 13, 14] (evs ?_)
        simp only [nx1 ‹(k : Int) < _› ‹p.length ≤ 281474976710656›, Int.toNat_natCast, nxtE]
        all_goals (try with_reducible (repeat' (first | apply And.intro | intro _)))
        all_goals (try (first | with_reducible refine wa_id ?_ | exact True.intro | omega | exact ccheck_fn [p] 0 | exact nx2 ‹_› | exact nx3))
        refine V_regionX Γ Δ [] [0, 2, 3, 4, 5, 6, 10, 11, 12, 13, 14] (evs ?_)
        all_goals (try with_reducible (repeat' (first | apply And.intro | intro _)))
        all_goals (try (first | with_reducible refine wa_id ?_ | exact True.intro | omega | exact ccheck_fn [p] 0 | exact nx2 ‹_› | exact nx3))
        simp only [tc1 ‹checkE [p] 0 = 0› ‹(k : Int) < _›]
        refine V_regionX Γ Δ [] [0, 2, 3, 4, 5, 6, 10, 11, 12, 13, 14] (evs ?_)
        all_goals (try with_reducible (repeat' (first | apply And.intro | intro _)))
        all_goals (try (first | with_reducible refine wa_id ?_ | exact True.intro | omega | exact ccheck_fn [p] 0 | exact nx2 ‹_› | exact nx3))
        refine V_next [] (k + 1) (evs ?_) ?_ ?_
        all_goals (try with_reducible (repeat' (first | apply And.intro | intro _)))
        all_goals (first | exact True.intro | omega | (first | exact w64l ‹(k : Int) < _› ‹p.length ≤ 281474976710656› | rfl))
      · refine V_exit (evs ?_)
        refine WA_seq (x := (fcd Try.f16 [1, 1, 1, 1, 0])) (y := (fcd Try.f16 [1, 1, 1, 1, 1])) ?_
        refine V_regionX Γ Δ [] [0, 2, 3, 4, 5, 6, 10, 11, 12, 13, 14] (evs ?_)
        all_goals (try with_reducible (repeat' (first | apply And.intro | intro _)))
        all_goals (try (first | with_reducible refine wa_id ?_ | exact True.intro | omega | exact ccheck_fn [p] 0 | exact nx2 ‹_› | exact nx3))
        refine V_ret (evs ?_)
        first | exact tc2 hc | exact tc3 ‹_› hI hc

/-- imageeditor/imageeditorref20.Twice -/
theorem rtwice_fn (p : List Pt) : Eng.Fn Try.prog 17 [.sl 2 (p.map ptC)] (.dat (.i (twiceI p))) := by
  refine Eng.Fn.by (fn := Try.f17) 43 [.tmp 2] Try.func17 rfl Try.ntmps17 rfl (by simp) fun w0 => ?_
  refine WA_seq (x := (fcd Try.f17 [0])) (y := (fcd Try.f17 [1])) ?_
  refine V_regionX Γ Δ [] [0, 2, 3, 4, 5, 6, 10, 14] (evs ?_)
  all_goals (try with_reducible (repeat' (first | apply And.intro | intro _)))
  all_goals (try (first | with_reducible refine wa_id ?_ | exact True.intro | omega | exact rcheck_fn [p] 0 | exact nx2 ‹_› | exact nx3))
  refine WA_seq (x := (fcd Try.f17 [1, 0])) (y := (fcd Try.f17 [1, 1])) ?_
  refine WA_seq (x := (fcd Try.f17 [1, 0, 0])) (y := (fcd Try.f17 [1, 0, 1])) ?_
  refine V_regionX Γ Δ [] [0, 2, 3, 4, 5, 6, 10, 14] (evs ?_)
  all_goals (try with_reducible (repeat' (first | apply And.intro | intro _)))
  all_goals (try (first | with_reducible refine wa_id ?_ | exact True.intro | exact rcheck_fn _ _ | omega | exact rcheck_fn [p] 0 | exact nx2 ‹_› | exact nx3))
  refine V_cond (evs ?_)
  refine ⟨fun hc => ?_, fun hc => ?_⟩
  · refine WA_seq (x := (fcd Try.f17 [1, 0, 1, 0, 0])) (y := (fcd Try.f17 [1, 0, 1, 0, 1])) ?_
    refine V_regionX Γ Δ [] [0, 2, 3, 4, 5, 6, 10, 14] (evs ?_)
    all_goals (try with_reducible (repeat' (first | apply And.intro | intro _)))
    all_goals (try (first | with_reducible refine wa_id ?_ | exact True.intro | omega | exact rcheck_fn [p] 0 | exact nx2 ‹_› | exact nx3))
    refine V_ret (evs ?_)
    first | exact tc2 hc | exact tc3 ‹_› hI hc
  · refine WA_skip ?_
    refine WA_seq (x := (fcd Try.f17 [1, 1, 0])) (y := (fcd Try.f17 [1, 1, 1])) ?_
    refine V_regionX Γ Δ [] [0, 2, 3, 4, 5, 6, 10, 14] (evs ?_)
    all_goals (try with_reducible (repeat' (first | apply And.intro | intro _)))
    all_goals (try (first | with_reducible refine wa_id ?_ | exact True.intro | omega | exact rcheck_fn [p] 0 | exact nx2 ‹_› | exact nx3))
    refine WA_seq (x := (fcd Try.f17 [1, 1, 1, 0])) (y := (fcd Try.f17 [1, 1, 1, 1])) ?_
    refine WA_seq (x := (fcd Try.f17 [1, 1, 1, 0, 0])) (y := (fcd Try.f17 [1, 1, 1, 0, 1])) ?_
    refine V_regionX Γ Δ [] [0, 2, 3, 4, 5, 6, 10, 14] (evs ?_)
    all_goals (try with_reducible (repeat' (first | apply And.intro | intro _)))
    all_goals (try (first | with_reducible refine wa_id ?_ | exact True.intro | omega | exact rcheck_fn [p] 0 | exact nx2 ‹_› | exact nx3))
    refine WA_block (c := (fcd Try.f17 [1, 1, 1, 0, 1, 0])) ?_
    refine V_loop (c := (fcd Try.f17 [1, 1, 1, 0, 1, 0, 0])) (α := Nat) [3, 4, 5, 6, 14] [5, 6] (fun k => [(4, .dat (.i (k : Int))), (3, .dat (.i (twiceK p k)))]) (fun k => []) (fun k => k ≤ p.length) (fun k => p.length - k) 0 [] ?_ (evs ?_) ?_
    · exact Nat.zero_le _
    · (try with_reducible (repeat' (first | apply And.intro | intro _)))
      all_goals (first | exact True.intro | omega | (simp [twiceK]))
    · intro k hI
      refine WA_seq (x := (fcd Try.f17 [1, 1, 1, 0, 1, 0, 0, 0])) (y := (fcd Try.f17 [1, 1, 1, 0, 1, 0, 0, 1])) ?_
      refine WA_seq (x := (fcd Try.f17 [1, 1, 1, 0, 1, 0, 0, 0, 0])) (y := (fcd Try.f17 [1, 1, 1, 0, 1, 0, 0, 0, 1])) ?_
      refine V_regionX Γ Δ [] [0, 2, 3, 4, 5, 6, 10, 14] (evs ?_)
      all_goals (try with_reducible (repeat' (first | apply And.intro | intro _)))
      all_goals (try (first | with_reducible refine wa_id ?_ | exact True.intro | omega | exact rcheck_fn [p] 0 | exact nx2 ‹_› | exact nx3))
      refine V_cond (evs ?_)
      refine ⟨fun hc => ?_, fun hc => ?_⟩
      · refine WA_skip ?_
        refine WA_seq (x := (fcd Try.f17 [1, 1, 1, 0, 1, 0, 0, 1, 0])) (y := (fcd Try.f17 [1, 1, 1, 0, 1, 0, 0, 1, 1])) ?_
        refine WA_block (c := (fcd Try.f17 [1, 1, 1, 0, 1, 0, 0, 1, 0, 0])) ?_
        refine WA_seq (x := (fcd Try.f17 [1, 1, 1, 0, 1, 0, 0, 1, 0, 0, 0])) (y := (fcd Try.f17 [1, 1, 1, 0, 1, 0, 0, 1, 0, 0, 1])) ?_
        refine V_regionX Γ Δ [] [0, 2, 3, 4, 5, 6, 10, 14] (evs ?_)
        all_goals (try with_reducible (repeat' (first | apply And.intro | intro _)))
        all_goals (try (first | with_reducible refine wa_id ?_ | exact True.intro | omega | exact rcheck_fn [p] 0 | exact nx2 ‹_› | exact nx3))
        refine WA_seq (x := (fcd Try.f17 [1, 1, 1, 0, 1, 0, 0, 1, 0, 0, 1, 0])) (y := (fcd Try.f17 [1, 1, 1, 0, 1, 0, 0, 1, 0, 0, 1, 1])) ?_
        refine V_regionX Γ Δ [] [0, 2, 3, 4, 5, 6, 10, 14] (evs ?_)
        simp only [nx1 ‹(k : Int) < _› ‹p.length ≤ 281474976710656›, Int.toNat_natCast, nxtE]
        all_goals (try with_reducible (repeat' (first | apply And.intro | intro _)))
        all_goals (try (first | with_reducible refine wa_id ?_ | exact True.intro | omega | exact rcheck_fn [p] 0 | exact nx2 ‹_› | exact nx3))
        refine V_regionX Γ Δ [] [0, 2, 3, 4, 5, 6, 10, 14] (evs ?_)
        all_goals (try with_reducible (repeat' (first | apply And.intro | intro _)))
        all_goals (try (first | with_reducible refine wa_id ?_ | exact True.intro | omega | exact rcheck_fn [p] 0 | exact nx2 ‹_› | exact nx3))
        simp only [tc1 ‹checkE [p] 0 = 0› ‹(k : Int) < _›]
        refine V_regionX Γ Δ [] [0, 2, 3, 4, 5, 6, 10, 14] (evs ?_)
        all_goals (try with_reducible (repeat' (first | apply And.intro | intro _)))
        all_goals (try (first | with_reducible refine wa_id ?_ | exact True.intro | omega | exact rcheck_fn [p] 0 | exact nx2 ‹_› | exact nx3))
        refine V_next [] (k + 1) (evs ?_) ?_ ?_
        all_goals (try with_reducible (repeat' (first | apply And.intro | intro _)))
        all_goals (first | exact True.intro | omega | (first | exact w64l ‹(k : Int) < _› ‹p.length ≤ 281474976710656› | rfl))
      · refine V_exit (evs ?_)
        refine WA_seq (x := (fcd Try.f17 [1, 1, 1, 1, 0])) (y := (fcd Try.f17 [1, 1, 1, 1, 1])) ?_
        refine V_regionX Γ Δ [] [0, 2, 3, 4, 5, 6, 10, 14] (evs ?_)
        all_goals (try with_reducible (repeat' (first | apply And.intro | intro _)))
        all_goals (try (first | with_reducible refine wa_id ?_ | exact True.intro | omega | exact rcheck_fn [p] 0 | exact nx2 ‹_› | exact nx3))
        refine V_ret (evs ?_)
        first | exact tc2 hc | exact tc3 ‹_› hI hc

end Go.S20

