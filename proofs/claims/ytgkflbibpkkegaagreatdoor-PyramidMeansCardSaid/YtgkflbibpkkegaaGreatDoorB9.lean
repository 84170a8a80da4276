import Derived.Test.YtgkflbibpkkegaaGreatDoorB5
import Derived.Test.YtgkflbibpkkegaaGreatDoorA3
import Derived.Test.YtgkflbibpkkegaaGreatDoorC1
set_option linter.unusedSimpArgs false
set_option linter.unusedVariables false
set_option linter.unusedSimpArgs false
set_option linter.unusedVariables false
namespace Go.S35
open Go.RowKit Go.Proofs Go.Eng Go.Rect
set_option maxHeartbeats 4000000 in
theorem preduce_fn (m : Im) (l : Int) : Eng.Fn Tryz.prog 17 [imD m, .i l] (.tup [.agg [.dat (.i (redR m l).w), .dat (.i (redR m l).h), .dat (.sl 4 ((redR m l).p.map pxC))], .dat (.i (redE m l))]) := by
  refine Eng.Fn.by (fn := Tryz.f17) 31 [.cell 4 31, .tmp 5] Tryz.func17 rfl Tryz.ntmps17 rfl (by simp) fun w0 G0 => ?_
  refine WA_seq (x := (fcd Tryz.f17 [0])) (y := (fcd Tryz.f17 [1])) ?_
  refine V_regionX Γ Δ [22, 28] [0, 1, 2, 4, 5, 6, 10, 18, 24, 25, 26] (evs ?_)
  all_goals (try with_reducible (repeat' (first | apply And.intro | intro _)))
  all_goals (try (first | with_reducible refine wa_id ?_ | exact True.intro | omega | (rw [List.length_map]; omega) | (show (tabP _ _).length ≤ _; rw [tabP_len]; omega)))
  refine WA_seq (x := (fcd Tryz.f17 [1, 0])) (y := (fcd Tryz.f17 [1, 1])) ?_
  refine WA_seq (x := (fcd Tryz.f17 [1, 0, 0])) (y := (fcd Tryz.f17 [1, 0, 1])) ?_
  refine V_regionX Γ Δ [22, 28] [0, 1, 2, 4, 5, 6, 10, 18, 24, 25, 26] (evs ?_)
  all_goals (try with_reducible (repeat' (first | apply And.intro | intro _)))
  all_goals (try (first | with_reducible refine wa_id ?_ | exact True.intro | exact icheck_fn ⟨_, _, _⟩ | omega | (rw [List.length_map]; omega) | (show (tabP _ _).length ≤ _; rw [tabP_len]; omega)))
  refine WA_seq (x := (fcd Tryz.f17 [1, 0, 1, 0])) (y := (fcd Tryz.f17 [1, 0, 1, 1])) ?_
  refine V_regionX Γ Δ [22, 28] [0, 1, 2, 4, 5, 6, 10, 18, 24, 25, 26] (evs ?_)
  all_goals (try with_reducible (repeat' (first | apply And.intro | intro _)))
  all_goals (try (first | with_reducible refine wa_id ?_ | exact True.intro | omega | (rw [List.length_map]; omega) | (show (tabP _ _).length ≤ _; rw [tabP_len]; omega)))
  refine V_cond (evs ?_)
  refine ⟨fun hc => ?_, fun hc => ?_⟩
  · refine WA_seq (x := (fcd Tryz.f17 [1, 0, 1, 1, 0, 0])) (y := (fcd Tryz.f17 [1, 0, 1, 1, 0, 1])) ?_
    refine V_regionX Γ Δ [22, 28] [0, 1, 2, 4, 5, 6, 10, 18, 24, 25, 26] (evs ?_)
    all_goals (try with_reducible (repeat' (first | apply And.intro | intro _)))
    all_goals (try (first | with_reducible refine wa_id ?_ | exact True.intro | omega | (rw [List.length_map]; omega) | (show (tabP _ _).length ≤ _; rw [tabP_len]; omega)))
    refine V_ret (evs ?_)
    first | exact ik0 _ (rd_1 hc) | exact ik0 _ (rd_2 ‹_› hc) | exact ik (redR m l) (v := (redK m k).p) (rd_3 hm hlv hI hc)
  · refine WA_skip ?_
    refine WA_seq (x := (fcd Tryz.f17 [1, 1, 0])) (y := (fcd Tryz.f17 [1, 1, 1])) ?_
    refine WA_seq (x := (fcd Tryz.f17 [1, 1, 0, 0])) (y := (fcd Tryz.f17 [1, 1, 0, 1])) ?_
    refine V_regionX Γ Δ [22, 28] [0, 1, 2, 4, 5, 6, 10, 18, 24, 25, 26] (evs ?_)
    all_goals (try with_reducible (repeat' (first | apply And.intro | intro _)))
    all_goals (try (first | with_reducible refine wa_id ?_ | exact True.intro | omega | (rw [List.length_map]; omega) | (show (tabP _ _).length ≤ _; rw [tabP_len]; omega)))
    refine V_cond (evs ?_)
    refine ⟨fun hc => ?_, fun hc => ?_⟩
    · refine WA_seq (x := (fcd Tryz.f17 [1, 1, 0, 1, 0, 0])) (y := (fcd Tryz.f17 [1, 1, 0, 1, 0, 1])) ?_
      refine V_regionX Γ Δ [22, 28] [0, 1, 2, 4, 5, 6, 10, 18, 24, 25, 26] (evs ?_)
      all_goals (try with_reducible (repeat' (first | apply And.intro | intro _)))
      all_goals (try (first | with_reducible refine wa_id ?_ | exact True.intro | omega | (rw [List.length_map]; omega) | (show (tabP _ _).length ≤ _; rw [tabP_len]; omega)))
      refine V_ret (evs ?_)
      first | exact ik0 _ (rd_1 hc) | exact ik0 _ (rd_2 ‹_› hc) | exact ik (redR m l) (v := (redK m k).p) (rd_3 hm hlv hI hc)
    · refine WA_skip ?_
      refine WA_seq (x := (fcd Tryz.f17 [1, 1, 1, 0])) (y := (fcd Tryz.f17 [1, 1, 1, 1])) ?_
      refine V_regionX Γ Δ [22, 28] [0, 1, 2, 4, 5, 6, 10, 18, 24, 25, 26] (evs ?_)
      have hm := ‹ichkE m = 0›
      have hlv : 0 ≤ l ∧ l ≤ 4 := by omega
      have hq := (ichk0 hm).2.2.1
      have hnb := nn_bd (ichk0 hm).1
      all_goals (try with_reducible (repeat' (first | apply And.intro | intro _)))
      all_goals (try (first | with_reducible refine wa_id ?_ | exact True.intro | exact clone_fn _ (by rw [List.length_map]; omega) | omega | (rw [List.length_map]; omega) | (show (tabP _ _).length ≤ _; rw [tabP_len]; omega)))
      refine WA_seq (x := (fcd Tryz.f17 [1, 1, 1, 1, 0])) (y := (fcd Tryz.f17 [1, 1, 1, 1, 1])) ?_
      refine WA_seq (x := (fcd Tryz.f17 [1, 1, 1, 1, 0, 0])) (y := (fcd Tryz.f17 [1, 1, 1, 1, 0, 1])) ?_
      refine V_regionX Γ Δ [22, 28] [0, 1, 2, 4, 5, 6, 10, 18, 24, 25, 26] (evs ?_)
      all_goals (try with_reducible (repeat' (first | apply And.intro | intro _)))
      all_goals (try (first | with_reducible refine wa_id ?_ | exact True.intro | omega | (rw [List.length_map]; omega) | (show (tabP _ _).length ≤ _; rw [tabP_len]; omega)))
      refine WA_block (c := (fcd Tryz.f17 [1, 1, 1, 1, 0, 1, 0])) ?_
      refine V_loop (c := (fcd Tryz.f17 [1, 1, 1, 1, 0, 1, 0, 0])) (α := Nat) [25, 26] [2, 12800, 12801, 12802, 12803] (fun k => [(25, .dat (.i (k : Int)))]) (fun k => [(2, some (true, .box 31 [.dat (.i (redK m k).w), .dat (.i (redK m k).h), .dat (.sl 4 ((redK m k).p.map pxC))]))]) (fun k => k ≤ l.toNat) (fun k => l.toNat - k) 0 [] ?_ (evs ?_) ?_
      · exact Nat.zero_le _
      · (try with_reducible (repeat' (first | apply And.intro | intro _)))
        all_goals (first | exact True.intro | omega | (first | rfl))
      · intro k hI
        refine WA_seq (x := (fcd Tryz.f17 [1, 1, 1, 1, 0, 1, 0, 0, 0])) (y := (fcd Tryz.f17 [1, 1, 1, 1, 0, 1, 0, 0, 1])) ?_
        refine V_regionX Γ Δ [22, 28] [0, 1, 2, 4, 5, 6, 10, 18, 24, 25, 26] (evs ?_)
        all_goals (try with_reducible (repeat' (first | apply And.intro | intro _)))
        all_goals (try (first | with_reducible refine wa_id ?_ | exact True.intro | omega | (rw [List.length_map]; omega) | (show (tabP _ _).length ≤ _; rw [tabP_len]; omega)))
        refine WA_seq (x := (fcd Tryz.f17 [1, 1, 1, 1, 0, 1, 0, 0, 1, 0])) (y := (fcd Tryz.f17 [1, 1, 1, 1, 0, 1, 0, 0, 1, 1])) ?_
        refine V_cond (evs ?_)
        refine ⟨fun hc => ?_, fun hc => ?_⟩
        · refine WA_skip ?_
          refine WA_seq (x := (fcd Tryz.f17 [1, 1, 1, 1, 0, 1, 0, 0, 1, 1, 0])) (y := (fcd Tryz.f17 [1, 1, 1, 1, 0, 1, 0, 0, 1, 1, 1])) ?_
          refine WA_block (c := (fcd Tryz.f17 [1, 1, 1, 1, 0, 1, 0, 0, 1, 1, 0, 0])) ?_
          refine V_regionX Γ Δ [22, 28] [0, 1, 2, 4, 5, 6, 10, 18, 24, 25, 26] (evs ?_)
          have hrk := red_ok hm k
          have hrq := nn_bd (half_z hrk)
          all_goals (try with_reducible (repeat' (first | apply And.intro | intro _)))
          all_goals (try (first | with_reducible refine wa_id ?_ | exact True.intro | exact half_fn ⟨_, _, _⟩ (by assumption) | omega | (rw [List.length_map]; omega) | (show (tabP _ _).length ≤ _; rw [tabP_len]; omega)))
          refine V_regionX Γ Δ [22, 28] [0, 1, 2, 4, 5, 6, 10, 18, 24, 25, 26] (evs ?_)
          all_goals (try with_reducible (repeat' (first | apply And.intro | intro _)))
          all_goals (try (first | with_reducible refine wa_id ?_ | exact True.intro | omega | (rw [List.length_map]; omega) | (show (tabP _ _).length ≤ _; rw [tabP_len]; omega)))
          refine V_next [] (k + 1) (evs ?_) ?_ ?_
          all_goals (try with_reducible (repeat' (first | apply And.intro | intro _)))
          all_goals (first | exact True.intro | omega | (first | rfl | exact w64l (n := 8) (by omega) (by omega)))
        · refine V_exit (evs ?_)
          refine WA_seq (x := (fcd Tryz.f17 [1, 1, 1, 1, 1, 0])) (y := (fcd Tryz.f17 [1, 1, 1, 1, 1, 1])) ?_
          refine V_regionX Γ Δ [22, 28] [0, 1, 2, 4, 5, 6, 10, 18, 24, 25, 26] (evs ?_)
          all_goals (try with_reducible (repeat' (first | apply And.intro | intro _)))
          all_goals (try (first | with_reducible refine wa_id ?_ | exact True.intro | omega | (rw [List.length_map]; omega) | (show (tabP _ _).length ≤ _; rw [tabP_len]; omega)))
          refine V_ret (evs ?_)
          first | exact ik0 _ (rd_1 hc) | exact ik0 _ (rd_2 ‹_› hc) | exact ik (redR m l) (v := (redK m k).p) (rd_3 hm hlv hI hc)

end Go.S35

