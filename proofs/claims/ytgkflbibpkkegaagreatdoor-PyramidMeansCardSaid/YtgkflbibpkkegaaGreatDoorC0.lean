import Derived.Test.YtgkflbibpkkegaaGreatDoorFB
set_option linter.unusedSimpArgs false
set_option linter.unusedVariables false
set_option linter.unusedSimpArgs false
set_option linter.unusedVariables false
namespace Go.S35
open Go.RowKit Go.Proofs Go.Eng Go.Rect
theorem cloneA_fn (l : List (List D)) (h0 : 0 < l.length) (hl : l.length ≤ 65536) : Eng.Fn Tryz.prog 39 [.sl 4 l] (.own 44 4 l) := by
  refine Eng.Fn.by (fn := Tryz.f39) 8 [.tmp 2] Tryz.func39 rfl Tryz.ntmps39 rfl (by simp) fun w0 G0 => ?_
  refine WA_seq (x := (fcd Tryz.f39 [0])) (y := (fcd Tryz.f39 [1])) ?_
  refine V_regionX Γ Δ [] [0, 2, 4] (evs ?_)
  all_goals (try with_reducible (repeat' (first | apply And.intro | intro _)))
  all_goals (try (first | with_reducible refine wa_id ?_ | exact True.intro | omega))
  refine WA_seq (x := (fcd Tryz.f39 [1, 0])) (y := (fcd Tryz.f39 [1, 1])) ?_
  refine WA_seq (x := (fcd Tryz.f39 [1, 0, 0])) (y := (fcd Tryz.f39 [1, 0, 1])) ?_
  refine V_regionXN Γ Δ [] [0, 2, 4] (evsB ?_)
  all_goals (try with_reducible (repeat' (first | apply And.intro | intro _)))
  all_goals (try (first | with_reducible refine wa_id ?_ | exact True.intro | omega))
  refine V_cond (evs ?_)
  first | refine ⟨fun hc => hc.elim, ?_⟩ | refine ⟨fun hc => absurd hc (by omega), fun hc => ?_⟩
  refine WA_skip ?_
  refine WA_seq (x := (fcd Tryz.f39 [1, 1, 0])) (y := (fcd Tryz.f39 [1, 1, 1])) ?_
  refine V_regionX Γ Δ [] [0, 2, 4] (evs ?_)
  all_goals (try with_reducible (repeat' (first | apply And.intro | intro _)))
  all_goals (try (first | with_reducible refine wa_id ?_ | exact True.intro | omega))
  refine V_ret (evs ?_)
  first | exact True.intro | rfl | exact ⟨rfl, rfl⟩

theorem cloneB_fn (cap : Nat) : Eng.Fn Tryz.prog 39 [.v (.slice none 0 cap)] (.own 44 4 []) := by
  refine Eng.Fn.by (fn := Tryz.f39) 8 [.tmp 2] Tryz.func39 rfl Tryz.ntmps39 rfl (by simp) fun w0 G0 => ?_
  refine WA_seq (x := (fcd Tryz.f39 [0])) (y := (fcd Tryz.f39 [1])) ?_
  refine V_regionX Γ Δ [] [0, 2, 4] (evs ?_)
  all_goals (try with_reducible (repeat' (first | apply And.intro | intro _)))
  all_goals (try (first | with_reducible refine wa_id ?_ | exact True.intro | omega))
  refine WA_seq (x := (fcd Tryz.f39 [1, 0])) (y := (fcd Tryz.f39 [1, 1])) ?_
  refine WA_seq (x := (fcd Tryz.f39 [1, 0, 0])) (y := (fcd Tryz.f39 [1, 0, 1])) ?_
  refine V_regionXN Γ Δ [] [0, 2, 4] (evsB ?_)
  all_goals (try with_reducible (repeat' (first | apply And.intro | intro _)))
  all_goals (try (first | with_reducible refine wa_id ?_ | exact True.intro | omega))
  refine V_cond (evs ?_)
  first | refine ⟨?_, fun hc => hc.elim⟩ | refine ⟨fun hc => ?_, fun hc => absurd hc (by omega)⟩
  refine WA_seq (x := (fcd Tryz.f39 [1, 0, 1, 0, 0])) (y := (fcd Tryz.f39 [1, 0, 1, 0, 1])) ?_
  refine V_regionX Γ Δ [] [0, 2, 4] (evs ?_)
  all_goals (try with_reducible (repeat' (first | apply And.intro | intro _)))
  all_goals (try (first | with_reducible refine wa_id ?_ | exact True.intro | omega))
  refine V_ret (evs ?_)
  first | exact True.intro | rfl | exact ⟨rfl, rfl⟩

theorem cloneC_fn (p : Addr) (cap : Nat) : Eng.Fn Tryz.prog 39 [.v (.slice (some p) 0 cap)] (.own 44 4 []) := by
  refine Eng.Fn.by (fn := Tryz.f39) 8 [.tmp 2] Tryz.func39 rfl Tryz.ntmps39 rfl (by simp) fun w0 G0 => ?_
  refine WA_seq (x := (fcd Tryz.f39 [0])) (y := (fcd Tryz.f39 [1])) ?_
  refine V_regionX Γ Δ [] [0, 2, 4] (evs ?_)
  all_goals (try with_reducible (repeat' (first | apply And.intro | intro _)))
  all_goals (try (first | with_reducible refine wa_id ?_ | exact True.intro | omega))
  refine WA_seq (x := (fcd Tryz.f39 [1, 0])) (y := (fcd Tryz.f39 [1, 1])) ?_
  refine WA_seq (x := (fcd Tryz.f39 [1, 0, 0])) (y := (fcd Tryz.f39 [1, 0, 1])) ?_
  refine V_regionXN Γ Δ [] [0, 2, 4] (evsB ?_)
  all_goals (try with_reducible (repeat' (first | apply And.intro | intro _)))
  all_goals (try (first | with_reducible refine wa_id ?_ | exact True.intro | omega))
  refine V_cond (evs ?_)
  first | refine ⟨fun hc => hc.elim, ?_⟩ | refine ⟨fun hc => absurd hc (by omega), fun hc => ?_⟩
  refine WA_skip ?_
  refine WA_seq (x := (fcd Tryz.f39 [1, 1, 0])) (y := (fcd Tryz.f39 [1, 1, 1])) ?_
  refine V_regionX Γ Δ [] [0, 2, 4] (evs ?_)
  all_goals (try with_reducible (repeat' (first | apply And.intro | intro _)))
  all_goals (try (first | with_reducible refine wa_id ?_ | exact True.intro | omega))
  refine V_ret (evs ?_)
  first | exact True.intro | rfl | exact ⟨rfl, rfl⟩

end Go.S35

