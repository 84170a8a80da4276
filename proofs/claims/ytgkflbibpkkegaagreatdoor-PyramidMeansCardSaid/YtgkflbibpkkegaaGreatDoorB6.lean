import Derived.Test.YtgkflbibpkkegaaGreatDoorB5
import Derived.Test.YtgkflbibpkkegaaGreatDoorA3
set_option linter.unusedSimpArgs false
set_option linter.unusedVariables false
set_option linter.unusedSimpArgs false
set_option linter.unusedVariables false
namespace Go.S35
open Go.RowKit Go.Proofs Go.Eng Go.Rect
theorem phalf_fn (m : Im) : Eng.Fn Tryz.prog 15 [imD m] (.tup [.agg [.dat (.i (hfI m).w), .dat (.i (hfI m).h), .own 44 4 ((hfI m).p.map pxC)], .dat (.i (ichkE m))]) := by
  refine Eng.Fn.by (fn := Tryz.f15) 13 [.cell 2 31, .tmp 3] Tryz.func15 rfl Tryz.ntmps15 rfl (by simp) fun w0 G0 => ?_
  refine WA_seq (x := (fcd Tryz.f15 [0])) (y := (fcd Tryz.f15 [1])) ?_
  refine V_regionX Γ Δ [] [0, 1, 2, 3, 4, 8] (evs ?_)
  all_goals (try with_reducible (repeat' (first | apply And.intro | intro _)))
  all_goals (try (first | with_reducible refine wa_id ?_ | exact True.intro | omega))
  refine WA_seq (x := (fcd Tryz.f15 [1, 0])) (y := (fcd Tryz.f15 [1, 1])) ?_
  refine WA_seq (x := (fcd Tryz.f15 [1, 0, 0])) (y := (fcd Tryz.f15 [1, 0, 1])) ?_
  refine V_regionX Γ Δ [] [0, 1, 2, 3, 4, 8] (evs ?_)
  all_goals (try with_reducible (repeat' (first | apply And.intro | intro _)))
  all_goals (try (first | with_reducible refine wa_id ?_ | exact True.intro | exact icheck_fn ⟨_, _, _⟩ | omega))
  refine WA_seq (x := (fcd Tryz.f15 [1, 0, 1, 0])) (y := (fcd Tryz.f15 [1, 0, 1, 1])) ?_
  refine V_regionX Γ Δ [] [0, 1, 2, 3, 4, 8] (evs ?_)
  all_goals (try with_reducible (repeat' (first | apply And.intro | intro _)))
  all_goals (try (first | with_reducible refine wa_id ?_ | exact True.intro | omega))
  refine V_cond (evs ?_)
  refine ⟨fun hc => ?_, fun hc => ?_⟩
  · refine WA_seq (x := (fcd Tryz.f15 [1, 0, 1, 1, 0, 0])) (y := (fcd Tryz.f15 [1, 0, 1, 1, 0, 1])) ?_
    refine V_regionX Γ Δ [] [0, 1, 2, 3, 4, 8] (evs ?_)
    all_goals (try with_reducible (repeat' (first | apply And.intro | intro _)))
    all_goals (try (first | with_reducible refine wa_id ?_ | exact True.intro | omega))
    refine V_ret (evs ?_)
    first | exact ik0 _ ⟨hf_1 hc, rfl⟩ | (rw [hf_1 hc]; exact ⟨rfl, rfl, rfl⟩) | (rw [hf_0 hm]; exact ⟨⟨rfl, rfl, rfl⟩, hm.symm⟩) | (rw [hf_0 hm]; exact ⟨rfl, rfl, rfl⟩) | exact ik _ ⟨hf_0 hm, hm⟩ | exact ik (hfI m) (v := (halfI m).p) ⟨hf_0 hm, hm⟩
  · refine WA_skip ?_
    refine WA_seq (x := (fcd Tryz.f15 [1, 1, 0])) (y := (fcd Tryz.f15 [1, 1, 1])) ?_
    refine V_regionX Γ Δ [] [0, 1, 2, 3, 4, 8] (evs ?_)
    have hm := hc
    all_goals (try with_reducible (repeat' (first | apply And.intro | intro _)))
    all_goals (try (first | with_reducible refine wa_id ?_ | exact True.intro | exact half_fn ⟨_, _, _⟩ (by assumption) | omega))
    refine V_ret (evs ?_)
    first | exact ik0 _ ⟨hf_1 hc, rfl⟩ | (rw [hf_1 hc]; exact ⟨rfl, rfl, rfl⟩) | (rw [hf_0 hm]; exact ⟨⟨rfl, rfl, rfl⟩, hm.symm⟩) | (rw [hf_0 hm]; exact ⟨rfl, rfl, rfl⟩) | exact ik _ ⟨hf_0 hm, hm⟩ | exact ik (hfI m) (v := (halfI m).p) ⟨hf_0 hm, hm⟩

end Go.S35

