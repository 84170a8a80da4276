import Derived.Test.YtnbeigcjhpldmaaGreatL0
import Derived.Test.YtnbeigcjhpldmaaGreatR6
import Derived.Test.YtnbeigcjhpldmaaGreatR7
set_option linter.unusedSimpArgs false
set_option linter.unusedVariables false
set_option linter.unusedSimpArgs false
set_option linter.unusedVariables false
namespace Go.S03
open Go.RowKit Go.Proofs Go.Eng Go.Rect
set_option maxHeartbeats 8000000 in
theorem rgrows_fn (a : List Rc) (n : Int) : Eng.Fn Tryz.prog 3 [.sl 4 (a.map rcC), .i n] (.dat (.b true)) := by
  refine Eng.Fn.by (fn := Tryz.f3) 42 [.tmp 4] Tryz.func3 rfl Tryz.ntmps3 rfl (by simp) fun w0 G0 => ?_
  refine WA_seq (x := (fcd Tryz.f3 [0])) (y := (fcd Tryz.f3 [1])) ?_
  refine V_regionX Γ Δ [] [0, 1, 4, 5, 6, 7, 16, 18, 19, 20, 30] (evs ?_)
  all_goals (try with_reducible (repeat' (first | apply And.intro | intro _)))
  all_goals (try (first | with_reducible refine wa_id ?_ | exact True.intro | omega | exact awake_fn | (simp [sameL_self]; done)))
  refine WA_seq (x := (fcd Tryz.f3 [1, 0])) (y := (fcd Tryz.f3 [1, 1])) ?_
  refine V_regionX Γ Δ [] [0, 1, 4, 5, 6, 7, 16, 18, 19, 20, 30] (evs ?_)
  all_goals (try with_reducible (repeat' (first | apply And.intro | intro _)))
  all_goals (try (first | with_reducible refine wa_id ?_ | exact True.intro | exact tiles3_fn _ | exact rtl_fn _ | omega | exact awake_fn | (simp [sameL_self]; done)))
  refine WA_seq (x := (fcd Tryz.f3 [1, 1, 0])) (y := (fcd Tryz.f3 [1, 1, 1])) ?_
  refine WA_seq (x := (fcd Tryz.f3 [1, 1, 0, 0])) (y := (fcd Tryz.f3 [1, 1, 0, 1])) ?_
  refine V_regionX Γ Δ [] [0, 1, 4, 5, 6, 7, 16, 18, 19, 20, 30] (evs ?_)
  all_goals (try with_reducible (repeat' (first | apply And.intro | intro _)))
  all_goals (try (first | with_reducible refine wa_id ?_ | exact True.intro | omega | exact awake_fn | (simp [sameL_self]; done)))
  refine V_cond (evs ?_)
  refine ⟨fun hc => hc.elim, ?_⟩
  refine WA_skip ?_
  refine WA_seq (x := (fcd Tryz.f3 [1, 1, 1, 0])) (y := (fcd Tryz.f3 [1, 1, 1, 1])) ?_
  refine WA_seq (x := (fcd Tryz.f3 [1, 1, 1, 0, 0])) (y := (fcd Tryz.f3 [1, 1, 1, 0, 1])) ?_
  refine V_regionX Γ Δ [] [0, 1, 4, 5, 6, 7, 16, 18, 19, 20, 30] (evs ?_)
  all_goals (try with_reducible (repeat' (first | apply And.intro | intro _)))
  all_goals (try (first | with_reducible refine wa_id ?_ | exact True.intro | omega | exact awake_fn | (simp [sameL_self]; done)))
  refine WA_block (c := (fcd Tryz.f3 [1, 1, 1, 0, 1, 0])) ?_
  refine V_loop (c := (fcd Tryz.f3 [1, 1, 1, 0, 1, 0, 0])) (α := Nat) [4, 7, 19, 20, 30] [] (fun k => [(19, .dat (.i (k : Int)))]) (fun k => []) (fun k => k ≤ (tilesF a).length) (fun k => (tilesF a).length - k) 0 [] ?_ (evs ?_) ?_
  · exact Nat.zero_le _
  · (try with_reducible (repeat' (first | apply And.intro | intro _)))
    all_goals (first | exact True.intro | omega | (first | rfl))
  · intro k hI
    refine WA_seq (x := (fcd Tryz.f3 [1, 1, 1, 0, 1, 0, 0, 0])) (y := (fcd Tryz.f3 [1, 1, 1, 0, 1, 0, 0, 1])) ?_
    refine V_regionX Γ Δ [] [0, 1, 4, 5, 6, 7, 16, 18, 19, 20, 30] (evs ?_)
    all_goals (try with_reducible (repeat' (first | apply And.intro | intro _)))
    all_goals (try (first | with_reducible refine wa_id ?_ | exact True.intro | omega | exact awake_fn | (simp [sameL_self]; done)))
    refine WA_seq (x := (fcd Tryz.f3 [1, 1, 1, 0, 1, 0, 0, 1, 0])) (y := (fcd Tryz.f3 [1, 1, 1, 0, 1, 0, 0, 1, 1])) ?_
    refine V_cond (evs ?_)
    refine ⟨fun hc => ?_, fun hc => ?_⟩
    · refine WA_skip ?_
      refine WA_seq (x := (fcd Tryz.f3 [1, 1, 1, 0, 1, 0, 0, 1, 1, 0])) (y := (fcd Tryz.f3 [1, 1, 1, 0, 1, 0, 0, 1, 1, 1])) ?_
      refine WA_block (c := (fcd Tryz.f3 [1, 1, 1, 0, 1, 0, 0, 1, 1, 0, 0])) ?_
      refine WA_seq (x := (fcd Tryz.f3 [1, 1, 1, 0, 1, 0, 0, 1, 1, 0, 0, 0])) (y := (fcd Tryz.f3 [1, 1, 1, 0, 1, 0, 0, 1, 1, 0, 0, 1])) ?_
      refine V_regionX Γ Δ [] [0, 1, 4, 5, 6, 7, 16, 18, 19, 20, 30] (evs ?_)
      have htl := tilesF_len a
      all_goals (try with_reducible (repeat' (first | apply And.intro | intro _)))
      all_goals (try (first | with_reducible refine wa_id ?_ | exact True.intro | omega | exact awake_fn | (simp [sameL_self]; done)))
      refine WA_seq (x := (fcd Tryz.f3 [1, 1, 1, 0, 1, 0, 0, 1, 1, 0, 0, 1, 0])) (y := (fcd Tryz.f3 [1, 1, 1, 0, 1, 0, 0, 1, 1, 0, 0, 1, 1])) ?_
      refine V_draw Γ [] [0, 1, 4, 5, 6, 7, 16, 18, 19, 20, 30] mixed (by kernel_rfl) (evs ?_)
      all_goals (try with_reducible (repeat' (first | apply And.intro | intro _)))
      all_goals (try (first | with_reducible refine wa_id ?_ | exact True.intro | omega | exact awake_fn | (simp [sameL_self]; done)))
      refine V_cond (evs ?_)
      refine ⟨fun hc => hc.elim, ?_⟩
      refine WA_skip ?_
      refine V_regionX Γ Δ [] [0, 1, 4, 5, 6, 7, 16, 18, 19, 20, 30] (evs ?_)
      all_goals (try with_reducible (repeat' (first | apply And.intro | intro _)))
      all_goals (try (first | with_reducible refine wa_id ?_ | exact True.intro | omega | exact awake_fn | (simp [sameL_self]; done)))
      refine V_next [] (k + 1) (evs ?_) ?_ ?_
      all_goals (try with_reducible (repeat' (first | apply And.intro | intro _)))
      all_goals (first | exact True.intro | omega | (first | exact w64l (n := 4096) (by omega) (by omega)))
    · refine V_exit (evs ?_)
      refine WA_seq (x := (fcd Tryz.f3 [1, 1, 1, 1, 0])) (y := (fcd Tryz.f3 [1, 1, 1, 1, 1])) ?_
      refine V_regionX Γ Δ [] [0, 1, 4, 5, 6, 7, 16, 18, 19, 20, 30] (evs ?_)
      all_goals (try with_reducible (repeat' (first | apply And.intro | intro _)))
      all_goals (try (first | with_reducible refine wa_id ?_ | exact True.intro | exact grow3_fn _ _ | exact rgr_fn _ _ | exact lalike_fn _ _ | exact awake_fn | omega | exact awake_fn | (simp [sameL_self]; done)))
      refine V_ret (evs ?_)
      first | exact True.intro | rfl | (simp [sameL_self]; done) | (exact absurd rfl hc) | omega

end Go.S03

