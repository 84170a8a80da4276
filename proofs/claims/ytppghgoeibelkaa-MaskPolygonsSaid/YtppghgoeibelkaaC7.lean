import Derived.Test.YtppghgoeibelkaaF23
import Derived.Test.YtppghgoeibelkaaLB
set_option linter.unusedSimpArgs false
set_option linter.unusedVariables false
namespace Go.S23
open Go.RowKit Go.Proofs Go.Eng Go.Rect
/-- imageeditor/cover.count -/
theorem count_fn (ts : List Int) (rule : Int) (L : List Int) (o m : Nat) (hr : rule = 0 ∨ rule = 1) (ht : ts.length = 16 * m + 1) (ho : o + m ≤ L.length) (hP : ∀ c, c ≤ 16 * m → -281474976710656 ≤ psum ts c ∧ psum ts c ≤ 281474976710656) (hL : ∀ k, 0 ≤ L.getD k 0 ∧ L.getD k 0 ≤ 1099511627776) (hm : m ≤ 65536) : Eng.FnX Try.prog 97 [.ro (.dat (.sl 1 (ts.map iC))), .ro (.dat (.i rule)), .mu (.arr 3 1 (L.map iC)) (.arr 3 1 ((cntL ts rule L o m).map iC)) o m 1] (.tup []) := by
  refine Eng.FnX.by (fn := Try.f97) 49 [] Try.func97 rfl Try.ntmps97 rfl (by simp) (by simp [PX.plains, PX.plain, Ent.isArr, Ent.plain, plI]) rfl fun w0 X u => ?_
  refine WA_seq (x := (fcd Try.f97 [0])) (y := (fcd Try.f97 [1])) ?_
  refine V_regionX Γ Δ [] [0, 1, 2, 6, 7, 8, 10, 11, 12, 14, 15, 40] (evs ?_)
  all_goals (try with_reducible (repeat' (first | apply And.intro | intro _)))
  all_goals (try (first | with_reducible refine wa_id ?_ | exact True.intro | omega))
  refine WA_seq (x := (fcd Try.f97 [1, 0])) (y := (fcd Try.f97 [1, 1])) ?_
  refine V_regionX Γ Δ [] [0, 1, 2, 6, 7, 8, 10, 11, 12, 14, 15, 40] (evs ?_)
  all_goals (try with_reducible (repeat' (first | apply And.intro | intro _)))
  all_goals (try (first | with_reducible refine wa_id ?_ | exact True.intro | omega))
  refine WA_block (c := (fcd Try.f97 [1, 1, 0])) ?_
  refine V_loop (c := (fcd Try.f97 [1, 1, 0, 0])) (α := Nat) [6, 7, 8, 11, 12, 14, 15, 40] [30002] (fun x => [(11, .dat (.i (x : Int))), (6, .dat (.i (psum ts (16 * x))))]) (fun x => [(30002, some (true, .arr 3 1 ((cntK ts rule L o x 0).map iC)))]) (fun x => x ≤ m) (fun x => m - x) 0 [] ?_ (evs ?_) ?_
  · exact Nat.zero_le _
  · (try with_reducible (repeat' (first | apply And.intro | intro _)))
    all_goals (first | exact True.intro | omega | (first | (rw [← cntK_0]) | rfl))
  · intro x hX
    refine WA_seq (x := (fcd Try.f97 [1, 1, 0, 0, 0])) (y := (fcd Try.f97 [1, 1, 0, 0, 1])) ?_
    refine V_regionX Γ Δ [] [0, 1, 2, 6, 7, 8, 10, 11, 12, 14, 15, 40] (evs ?_)
    all_goals (try with_reducible (repeat' (first | apply And.intro | intro _)))
    all_goals (try (first | with_reducible refine wa_id ?_ | exact True.intro | omega))
    refine WA_seq (x := (fcd Try.f97 [1, 1, 0, 0, 1, 0])) (y := (fcd Try.f97 [1, 1, 0, 0, 1, 1])) ?_
    refine V_cond (evs ?_)
    refine ⟨fun hc => ?_, fun hc => ?_⟩
    · refine WA_skip ?_
      refine WA_seq (x := (fcd Try.f97 [1, 1, 0, 0, 1, 1, 0])) (y := (fcd Try.f97 [1, 1, 0, 0, 1, 1, 1])) ?_
      refine WA_block (c := (fcd Try.f97 [1, 1, 0, 0, 1, 1, 0, 0])) ?_
      refine WA_seq (x := (fcd Try.f97 [1, 1, 0, 0, 1, 1, 0, 0, 0])) (y := (fcd Try.f97 [1, 1, 0, 0, 1, 1, 0, 0, 1])) ?_
      refine V_regionX Γ Δ [] [0, 1, 2, 6, 7, 8, 10, 11, 12, 14, 15, 40] (evs ?_)
      all_goals (try with_reducible (repeat' (first | apply And.intro | intro _)))
      all_goals (try (first | with_reducible refine wa_id ?_ | exact True.intro | omega))
      refine WA_seq (x := (fcd Try.f97 [1, 1, 0, 0, 1, 1, 0, 0, 1, 0])) (y := (fcd Try.f97 [1, 1, 0, 0, 1, 1, 0, 0, 1, 1])) ?_
      refine V_regionX Γ Δ [] [0, 1, 2, 6, 7, 8, 10, 11, 12, 14, 15, 40] (evs ?_)
      all_goals (try with_reducible (repeat' (first | apply And.intro | intro _)))
      all_goals (try (first | with_reducible refine wa_id ?_ | exact True.intro | omega))
      refine WA_block (c := (fcd Try.f97 [1, 1, 0, 0, 1, 1, 0, 0, 1, 1, 0])) ?_
      refine V_loop (c := (fcd Try.f97 [1, 1, 0, 0, 1, 1, 0, 0, 1, 1, 0, 0])) (α := Nat) [6, 8, 14, 15, 40] [30002] (fun i => [(14, .dat (.i (i : Int))), (6, .dat (.i (psum ts (16 * x + i))))]) (fun i => [(30002, some (true, .arr 3 1 ((cntK ts rule L o x i).map iC)))]) (fun i => i ≤ 16) (fun i => 16 - i) 0 [] ?_ (evs ?_) ?_
      · exact Nat.zero_le _
      · (try with_reducible (repeat' (first | apply And.intro | intro _)))
        all_goals (first | exact True.intro | omega | (rfl))
      · intro i hK
        refine WA_seq (x := (fcd Try.f97 [1, 1, 0, 0, 1, 1, 0, 0, 1, 1, 0, 0, 0])) (y := (fcd Try.f97 [1, 1, 0, 0, 1, 1, 0, 0, 1, 1, 0, 0, 1])) ?_
        refine V_regionX Γ Δ [] [0, 1, 2, 6, 7, 8, 10, 11, 12, 14, 15, 40] (evs ?_)
        all_goals (try with_reducible (repeat' (first | apply And.intro | intro _)))
        all_goals (try (first | with_reducible refine wa_id ?_ | exact True.intro | omega))
        refine WA_seq (x := (fcd Try.f97 [1, 1, 0, 0, 1, 1, 0, 0, 1, 1, 0, 0, 1, 0])) (y := (fcd Try.f97 [1, 1, 0, 0, 1, 1, 0, 0, 1, 1, 0, 0, 1, 1])) ?_
        refine V_cond (evs ?_)
        refine ⟨fun hc => ?_, fun hc => ?_⟩
        · refine WA_skip ?_
          refine WA_seq (x := (fcd Try.f97 [1, 1, 0, 0, 1, 1, 0, 0, 1, 1, 0, 0, 1, 1, 0])) (y := (fcd Try.f97 [1, 1, 0, 0, 1, 1, 0, 0, 1, 1, 0, 0, 1, 1, 1])) ?_
          refine WA_block (c := (fcd Try.f97 [1, 1, 0, 0, 1, 1, 0, 0, 1, 1, 0, 0, 1, 1, 0, 0])) ?_
          refine WA_seq (x := (fcd Try.f97 [1, 1, 0, 0, 1, 1, 0, 0, 1, 1, 0, 0, 1, 1, 0, 0, 0])) (y := (fcd Try.f97 [1, 1, 0, 0, 1, 1, 0, 0, 1, 1, 0, 0, 1, 1, 0, 0, 1])) ?_
          refine V_regionX Γ Δ [] [0, 1, 2, 6, 7, 8, 10, 11, 12, 14, 15, 40] (evs ?_)
          all_goals (try with_reducible (repeat' (first | apply And.intro | intro _)))
          all_goals (try (first | with_reducible refine wa_id ?_ | exact True.intro | omega))
          refine WA_seq (x := (fcd Try.f97 [1, 1, 0, 0, 1, 1, 0, 0, 1, 1, 0, 0, 1, 1, 0, 0, 1, 0])) (y := (fcd Try.f97 [1, 1, 0, 0, 1, 1, 0, 0, 1, 1, 0, 0, 1, 1, 0, 0, 1, 1])) ?_
          refine V_regionX Γ Δ [] [0, 1, 2, 6, 7, 8, 10, 11, 12, 14, 15, 40] (evs ?_)
          simp only [cn4 (show (x : Int) < 65536 by omega) ‹(i : Int) < 16›, Int.toNat_natCast]
          all_goals (try with_reducible (repeat' (first | apply And.intro | intro _)))
          all_goals (try (first | with_reducible refine wa_id ?_ | exact True.intro | omega))
          simp only [cn5 ht (show x < m by omega) ‹(i : Int) < 16› hP]
          refine WA_seq (x := (fcd Try.f97 [1, 1, 0, 0, 1, 1, 0, 0, 1, 1, 0, 0, 1, 1, 0, 0, 1, 1, 0])) (y := (fcd Try.f97 [1, 1, 0, 0, 1, 1, 0, 0, 1, 1, 0, 0, 1, 1, 0, 0, 1, 1, 1])) ?_
          refine V_regionX Γ Δ [] [0, 1, 2, 6, 7, 8, 10, 11, 12, 14, 15, 40] (evs ?_)
          all_goals (try with_reducible (repeat' (first | apply And.intro | intro _)))
          all_goals (try (first | with_reducible refine wa_id ?_ | exact True.intro | omega))
          refine V_cond (evs ?_)
          refine ⟨fun hc => ?_, fun hc => ?_⟩
          · refine V_regionX Γ Δ [] [0, 1, 2, 6, 7, 8, 10, 11, 12, 14, 15, 40] (evs ?_)
            all_goals (try with_reducible (repeat' (first | apply And.intro | intro _)))
            all_goals (try (first | with_reducible refine wa_id ?_ | exact True.intro | omega))
            refine V_regionX Γ Δ [] [0, 1, 2, 6, 7, 8, 10, 11, 12, 14, 15, 40] (evs ?_)
            all_goals (try with_reducible (repeat' (first | apply And.intro | intro _)))
            all_goals (try (first | with_reducible refine wa_id ?_ | exact True.intro | omega))
            refine V_next [] (i + 1) (evs ?_) ?_ ?_
            all_goals (try with_reducible (repeat' (first | apply And.intro | intro _)))
            all_goals (first | exact True.intro | omega | (first | exact w64l (n := 16) ‹(i : Int) < 16› (by omega) | (rw [← cn1 (by omega) (cn6 hr hc) hL hK]) | (rw [← cn2 (cn7 hr hc)]) | rfl))
          · refine WA_skip ?_
            refine V_regionX Γ Δ [] [0, 1, 2, 6, 7, 8, 10, 11, 12, 14, 15, 40] (evs ?_)
            all_goals (try with_reducible (repeat' (first | apply And.intro | intro _)))
            all_goals (try (first | with_reducible refine wa_id ?_ | exact True.intro | omega))
            refine V_next [] (i + 1) (evs ?_) ?_ ?_
            all_goals (try with_reducible (repeat' (first | apply And.intro | intro _)))
            all_goals (first | exact True.intro | omega | (first | exact w64l (n := 16) ‹(i : Int) < 16› (by omega) | (rw [← cn1 (by omega) (cn6 hr hc) hL hK]) | (rw [← cn2 (cn7 hr hc)]) | rfl))
        · refine V_exit (evs ?_)
          refine V_regionX Γ Δ [] [0, 1, 2, 6, 7, 8, 10, 11, 12, 14, 15, 40] (evs ?_)
          all_goals (try with_reducible (repeat' (first | apply And.intro | intro _)))
          all_goals (try (first | with_reducible refine wa_id ?_ | exact True.intro | omega))
          refine V_next [] (x + 1) (evs ?_) ?_ ?_
          all_goals (try with_reducible (repeat' (first | apply And.intro | intro _)))
          all_goals (first | exact True.intro | omega | (first | exact w64l (n := 65536) (by omega) (by omega) | exact ps_end hK hc | (rw [cn3 hK hc])))
    · refine V_exit (evs ?_)
      try refine V_end (evs ?_)
      have : x = m := by omega
      subst this; rfl

end Go.S23

