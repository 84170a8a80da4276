import Derived.Test.YtppghgoeibelkaaA2
import Derived.Test.YtppghgoeibelkaaLB
set_option linter.unusedSimpArgs false
set_option linter.unusedVariables false
namespace Go.S23
open Go.RowKit Go.Proofs Go.Eng Go.Rect
/-- imageeditor/cover.Check -/
theorem ccheck_fn (ps : List (List Pt)) (rule : Int) : Eng.Fn Try.prog 93 [.sl 1 (ps.map plyC), .i rule] (.dat (.i (checkE ps rule))) := by
  refine Eng.Fn.by (fn := Try.f93) 63 [.tmp 4] Try.func93 rfl Try.ntmps93 rfl (by simp) fun w0 => ?_
  refine WA_seq (x := (fcd Try.f93 [0])) (y := (fcd Try.f93 [1])) ?_
  refine V_regionX Γ Δ [] [0, 1, 4, 5, 7, 9, 11, 17, 18, 19, 20, 21, 29, 31, 32, 33, 34, 37, 38, 39, 40, 60] (evs ?_)
  all_goals (try with_reducible (repeat' (first | apply And.intro | intro _)))
  all_goals (try (first | with_reducible refine wa_id ?_ | exact True.intro | omega))
  refine WA_seq (x := (fcd Try.f93 [1, 0])) (y := (fcd Try.f93 [1, 1])) ?_
  refine WA_seq (x := (fcd Try.f93 [1, 0, 0])) (y := (fcd Try.f93 [1, 0, 1])) ?_
  refine V_regionX Γ Δ [] [0, 1, 4, 5, 7, 9, 11, 17, 18, 19, 20, 21, 29, 31, 32, 33, 34, 37, 38, 39, 40, 60] (evs ?_)
  all_goals (try with_reducible (repeat' (first | apply And.intro | intro _)))
  all_goals (try (first | with_reducible refine wa_id ?_ | exact True.intro | omega))
  refine V_cond (evs ?_)
  refine ⟨fun hc => ?_, fun hc => ?_⟩
  · refine WA_seq (x := (fcd Try.f93 [1, 0, 1, 0, 0])) (y := (fcd Try.f93 [1, 0, 1, 0, 1])) ?_
    refine V_regionX Γ Δ [] [0, 1, 4, 5, 7, 9, 11, 17, 18, 19, 20, 21, 29, 31, 32, 33, 34, 37, 38, 39, 40, 60] (evs ?_)
    all_goals (try with_reducible (repeat' (first | apply And.intro | intro _)))
    all_goals (try (first | with_reducible refine wa_id ?_ | exact True.intro | omega))
    refine V_ret (evs ?_)
    first | exact ce1 hc | exact ce2 ‹_› hc | exact ce3 ‹_› hT ‹(j : Int) < _› ‹(i : Int) < _› hc | exact ce4 ‹_› hT hJ.2 hc
  · refine WA_skip ?_
    refine WA_seq (x := (fcd Try.f93 [1, 1, 0])) (y := (fcd Try.f93 [1, 1, 1])) ?_
    refine V_regionX Γ Δ [] [0, 1, 4, 5, 7, 9, 11, 17, 18, 19, 20, 21, 29, 31, 32, 33, 34, 37, 38, 39, 40, 60] (evs ?_)
    all_goals (try with_reducible (repeat' (first | apply And.intro | intro _)))
    all_goals (try (first | with_reducible refine wa_id ?_ | exact True.intro | omega))
    refine WA_seq (x := (fcd Try.f93 [1, 1, 1, 0])) (y := (fcd Try.f93 [1, 1, 1, 1])) ?_
    refine WA_seq (x := (fcd Try.f93 [1, 1, 1, 0, 0])) (y := (fcd Try.f93 [1, 1, 1, 0, 1])) ?_
    refine V_regionX Γ Δ [] [0, 1, 4, 5, 7, 9, 11, 17, 18, 19, 20, 21, 29, 31, 32, 33, 34, 37, 38, 39, 40, 60] (evs ?_)
    all_goals (try with_reducible (repeat' (first | apply And.intro | intro _)))
    all_goals (try (first | with_reducible refine wa_id ?_ | exact True.intro | omega))
    refine WA_block (c := (fcd Try.f93 [1, 1, 1, 0, 1, 0])) ?_
    refine V_loop (c := (fcd Try.f93 [1, 1, 1, 0, 1, 0, 0])) (α := Nat) [4, 5, 7, 20, 21, 29] [] (fun k => [(20, .dat (.i (k : Int))), (5, .dat (.i (total (ps.take k) : Nat)))]) (fun k => []) (fun k => k ≤ ps.length ∧ total (ps.take k) ≤ 4096) (fun k => ps.length - k) 0 [] ?_ (evs ?_) ?_
    · exact ⟨Nat.zero_le _, Nat.zero_le _⟩
    · (try with_reducible (repeat' (first | apply And.intro | intro _)))
      all_goals (first | exact True.intro | omega | (simp [total]))
    · intro k hI
      refine WA_seq (x := (fcd Try.f93 [1, 1, 1, 0, 1, 0, 0, 0])) (y := (fcd Try.f93 [1, 1, 1, 0, 1, 0, 0, 1])) ?_
      refine V_regionX Γ Δ [] [0, 1, 4, 5, 7, 9, 11, 17, 18, 19, 20, 21, 29, 31, 32, 33, 34, 37, 38, 39, 40, 60] (evs ?_)
      all_goals (try with_reducible (repeat' (first | apply And.intro | intro _)))
      all_goals (try (first | with_reducible refine wa_id ?_ | exact True.intro | omega))
      refine WA_seq (x := (fcd Try.f93 [1, 1, 1, 0, 1, 0, 0, 1, 0])) (y := (fcd Try.f93 [1, 1, 1, 0, 1, 0, 0, 1, 1])) ?_
      refine V_cond (evs ?_)
      refine ⟨fun hc => ?_, fun hc => ?_⟩
      · refine WA_skip ?_
        refine WA_seq (x := (fcd Try.f93 [1, 1, 1, 0, 1, 0, 0, 1, 1, 0])) (y := (fcd Try.f93 [1, 1, 1, 0, 1, 0, 0, 1, 1, 1])) ?_
        refine WA_block (c := (fcd Try.f93 [1, 1, 1, 0, 1, 0, 0, 1, 1, 0, 0])) ?_
        refine WA_seq (x := (fcd Try.f93 [1, 1, 1, 0, 1, 0, 0, 1, 1, 0, 0, 0])) (y := (fcd Try.f93 [1, 1, 1, 0, 1, 0, 0, 1, 1, 0, 0, 1])) ?_
        refine V_regionX Γ Δ [] [0, 1, 4, 5, 7, 9, 11, 17, 18, 19, 20, 21, 29, 31, 32, 33, 34, 37, 38, 39, 40, 60] (evs ?_)
        all_goals (try with_reducible (repeat' (first | apply And.intro | intro _)))
        all_goals (try (first | with_reducible refine wa_id ?_ | exact True.intro | omega))
        refine WA_seq (x := (fcd Try.f93 [1, 1, 1, 0, 1, 0, 0, 1, 1, 0, 0, 1, 0])) (y := (fcd Try.f93 [1, 1, 1, 0, 1, 0, 0, 1, 1, 0, 0, 1, 1])) ?_
        refine V_regionX Γ Δ [] [0, 1, 4, 5, 7, 9, 11, 17, 18, 19, 20, 21, 29, 31, 32, 33, 34, 37, 38, 39, 40, 60] (evs ?_)
        all_goals (try with_reducible (repeat' (first | apply And.intro | intro _)))
        all_goals (try (first | with_reducible refine wa_id ?_ | exact True.intro | omega))
        simp only [ck1 hI.2 ‹(k : Int) < _› ‹(ps.getD k []).length ≤ 281474976710656›]
        refine WA_seq (x := (fcd Try.f93 [1, 1, 1, 0, 1, 0, 0, 1, 1, 0, 0, 1, 1, 0])) (y := (fcd Try.f93 [1, 1, 1, 0, 1, 0, 0, 1, 1, 0, 0, 1, 1, 1])) ?_
        refine V_regionX Γ Δ [] [0, 1, 4, 5, 7, 9, 11, 17, 18, 19, 20, 21, 29, 31, 32, 33, 34, 37, 38, 39, 40, 60] (evs ?_)
        all_goals (try with_reducible (repeat' (first | apply And.intro | intro _)))
        all_goals (try (first | with_reducible refine wa_id ?_ | exact True.intro | omega))
        refine V_cond (evs ?_)
        refine ⟨fun hc => ?_, fun hc => ?_⟩
        · refine WA_seq (x := (fcd Try.f93 [1, 1, 1, 0, 1, 0, 0, 1, 1, 0, 0, 1, 1, 1, 0, 0])) (y := (fcd Try.f93 [1, 1, 1, 0, 1, 0, 0, 1, 1, 0, 0, 1, 1, 1, 0, 1])) ?_
          refine V_regionX Γ Δ [] [0, 1, 4, 5, 7, 9, 11, 17, 18, 19, 20, 21, 29, 31, 32, 33, 34, 37, 38, 39, 40, 60] (evs ?_)
          all_goals (try with_reducible (repeat' (first | apply And.intro | intro _)))
          all_goals (try (first | with_reducible refine wa_id ?_ | exact True.intro | omega))
          refine V_ret (evs ?_)
          first | exact ce1 hc | exact ce2 ‹_› hc | exact ce3 ‹_› hT ‹(j : Int) < _› ‹(i : Int) < _› hc | exact ce4 ‹_› hT hJ.2 hc
        · refine WA_skip ?_
          refine V_regionX Γ Δ [] [0, 1, 4, 5, 7, 9, 11, 17, 18, 19, 20, 21, 29, 31, 32, 33, 34, 37, 38, 39, 40, 60] (evs ?_)
          all_goals (try with_reducible (repeat' (first | apply And.intro | intro _)))
          all_goals (try (first | with_reducible refine wa_id ?_ | exact True.intro | omega))
          refine V_next [] (k + 1) (evs ?_) ?_ ?_
          all_goals (try with_reducible (repeat' (first | apply And.intro | intro _)))
          all_goals (first | exact True.intro | omega | (first | exact w64l ‹(k : Int) < _› ‹ps.length ≤ 281474976710656› | rfl))
      · refine V_exit (evs ?_)
        refine WA_seq (x := (fcd Try.f93 [1, 1, 1, 1, 0])) (y := (fcd Try.f93 [1, 1, 1, 1, 1])) ?_
        refine WA_seq (x := (fcd Try.f93 [1, 1, 1, 1, 0, 0])) (y := (fcd Try.f93 [1, 1, 1, 1, 0, 1])) ?_
        refine V_regionX Γ Δ [] [0, 1, 4, 5, 7, 9, 11, 17, 18, 19, 20, 21, 29, 31, 32, 33, 34, 37, 38, 39, 40, 60] (evs ?_)
        all_goals (try with_reducible (repeat' (first | apply And.intro | intro _)))
        all_goals (try (first | with_reducible refine wa_id ?_ | exact True.intro | omega))
        have hT := ck2 hI.1 hI.2 hc
        refine WA_block (c := (fcd Try.f93 [1, 1, 1, 1, 0, 1, 0])) ?_
        refine V_loop (c := (fcd Try.f93 [1, 1, 1, 1, 0, 1, 0, 0])) (α := Nat) [4, 9, 11, 33, 34, 37, 38, 39, 40, 60] [11] (fun j => [(33, .dat (.i (j : Int)))]) (fun j => []) (fun j => j ≤ ps.length ∧ (ps.take j).all (fun p => p.all ptOk) = true) (fun j => ps.length - j) 0 [] ?_ (evs ?_) ?_
        · exact ⟨Nat.zero_le _, rfl⟩
        · (try with_reducible (repeat' (first | apply And.intro | intro _)))
          all_goals (first | exact True.intro | omega | (rfl))
        · intro j hJ
          refine WA_seq (x := (fcd Try.f93 [1, 1, 1, 1, 0, 1, 0, 0, 0])) (y := (fcd Try.f93 [1, 1, 1, 1, 0, 1, 0, 0, 1])) ?_
          refine V_regionX Γ Δ [] [0, 1, 4, 5, 7, 9, 11, 17, 18, 19, 20, 21, 29, 31, 32, 33, 34, 37, 38, 39, 40, 60] (evs ?_)
          all_goals (try with_reducible (repeat' (first | apply And.intro | intro _)))
          all_goals (try (first | with_reducible refine wa_id ?_ | exact True.intro | omega))
          refine WA_seq (x := (fcd Try.f93 [1, 1, 1, 1, 0, 1, 0, 0, 1, 0])) (y := (fcd Try.f93 [1, 1, 1, 1, 0, 1, 0, 0, 1, 1])) ?_
          refine V_cond (evs ?_)
          refine ⟨fun hc => ?_, fun hc => ?_⟩
          · refine WA_skip ?_
            refine WA_seq (x := (fcd Try.f93 [1, 1, 1, 1, 0, 1, 0, 0, 1, 1, 0])) (y := (fcd Try.f93 [1, 1, 1, 1, 0, 1, 0, 0, 1, 1, 1])) ?_
            refine WA_block (c := (fcd Try.f93 [1, 1, 1, 1, 0, 1, 0, 0, 1, 1, 0, 0])) ?_
            refine WA_seq (x := (fcd Try.f93 [1, 1, 1, 1, 0, 1, 0, 0, 1, 1, 0, 0, 0])) (y := (fcd Try.f93 [1, 1, 1, 1, 0, 1, 0, 0, 1, 1, 0, 0, 1])) ?_
            refine V_regionX Γ Δ [] [0, 1, 4, 5, 7, 9, 11, 17, 18, 19, 20, 21, 29, 31, 32, 33, 34, 37, 38, 39, 40, 60] (evs ?_)
            all_goals (try with_reducible (repeat' (first | apply And.intro | intro _)))
            all_goals (try (first | with_reducible refine wa_id ?_ | exact True.intro | omega))
            refine WA_seq (x := (fcd Try.f93 [1, 1, 1, 1, 0, 1, 0, 0, 1, 1, 0, 0, 1, 0])) (y := (fcd Try.f93 [1, 1, 1, 1, 0, 1, 0, 0, 1, 1, 0, 0, 1, 1])) ?_
            refine V_regionX Γ Δ [] [0, 1, 4, 5, 7, 9, 11, 17, 18, 19, 20, 21, 29, 31, 32, 33, 34, 37, 38, 39, 40, 60] (evs ?_)
            all_goals (try with_reducible (repeat' (first | apply And.intro | intro _)))
            all_goals (try (first | with_reducible refine wa_id ?_ | exact True.intro | omega))
            refine WA_block (c := (fcd Try.f93 [1, 1, 1, 1, 0, 1, 0, 0, 1, 1, 0, 0, 1, 1, 0])) ?_
            refine V_loop (c := (fcd Try.f93 [1, 1, 1, 1, 0, 1, 0, 0, 1, 1, 0, 0, 1, 1, 0, 0])) (α := Nat) [4, 11, 39, 40, 60] [11] (fun i => [(39, .dat (.i (i : Int)))]) (fun i => []) (fun i => i ≤ (ps.getD j []).length ∧ ((ps.getD j []).take i).all ptOk = true) (fun i => (ps.getD j []).length - i) 0 [] ?_ (evs ?_) ?_
            · exact ⟨Nat.zero_le _, rfl⟩
            · (try with_reducible (repeat' (first | apply And.intro | intro _)))
              all_goals (first | exact True.intro | omega | (rfl))
            · intro i hK
              refine WA_seq (x := (fcd Try.f93 [1, 1, 1, 1, 0, 1, 0, 0, 1, 1, 0, 0, 1, 1, 0, 0, 0])) (y := (fcd Try.f93 [1, 1, 1, 1, 0, 1, 0, 0, 1, 1, 0, 0, 1, 1, 0, 0, 1])) ?_
              refine V_regionX Γ Δ [] [0, 1, 4, 5, 7, 9, 11, 17, 18, 19, 20, 21, 29, 31, 32, 33, 34, 37, 38, 39, 40, 60] (evs ?_)
              all_goals (try with_reducible (repeat' (first | apply And.intro | intro _)))
              all_goals (try (first | with_reducible refine wa_id ?_ | exact True.intro | omega))
              refine WA_seq (x := (fcd Try.f93 [1, 1, 1, 1, 0, 1, 0, 0, 1, 1, 0, 0, 1, 1, 0, 0, 1, 0])) (y := (fcd Try.f93 [1, 1, 1, 1, 0, 1, 0, 0, 1, 1, 0, 0, 1, 1, 0, 0, 1, 1])) ?_
              refine V_cond (evs ?_)
              refine ⟨fun hc => ?_, fun hc => ?_⟩
              · refine WA_skip ?_
                refine WA_seq (x := (fcd Try.f93 [1, 1, 1, 1, 0, 1, 0, 0, 1, 1, 0, 0, 1, 1, 0, 0, 1, 1, 0])) (y := (fcd Try.f93 [1, 1, 1, 1, 0, 1, 0, 0, 1, 1, 0, 0, 1, 1, 0, 0, 1, 1, 1])) ?_
                refine WA_block (c := (fcd Try.f93 [1, 1, 1, 1, 0, 1, 0, 0, 1, 1, 0, 0, 1, 1, 0, 0, 1, 1, 0, 0])) ?_
                refine WA_seq (x := (fcd Try.f93 [1, 1, 1, 1, 0, 1, 0, 0, 1, 1, 0, 0, 1, 1, 0, 0, 1, 1, 0, 0, 0])) (y := (fcd Try.f93 [1, 1, 1, 1, 0, 1, 0, 0, 1, 1, 0, 0, 1, 1, 0, 0, 1, 1, 0, 0, 1])) ?_
                refine V_regionX Γ Δ [] [0, 1, 4, 5, 7, 9, 11, 17, 18, 19, 20, 21, 29, 31, 32, 33, 34, 37, 38, 39, 40, 60] (evs ?_)
                all_goals (try with_reducible (repeat' (first | apply And.intro | intro _)))
                all_goals (try (first | with_reducible refine wa_id ?_ | exact True.intro | omega))
                refine WA_seq (x := (fcd Try.f93 [1, 1, 1, 1, 0, 1, 0, 0, 1, 1, 0, 0, 1, 1, 0, 0, 1, 1, 0, 0, 1, 0])) (y := (fcd Try.f93 [1, 1, 1, 1, 0, 1, 0, 0, 1, 1, 0, 0, 1, 1, 0, 0, 1, 1, 0, 0, 1, 1])) ?_
                refine V_regionX Γ Δ [] [0, 1, 4, 5, 7, 9, 11, 17, 18, 19, 20, 21, 29, 31, 32, 33, 34, 37, 38, 39, 40, 60] (evs ?_)
                all_goals (try with_reducible (repeat' (first | apply And.intro | intro _)))
                all_goals (try (first | with_reducible refine wa_id ?_ | exact True.intro | omega))
                refine V_cond (evs ?_)
                refine ⟨fun hc => ?_, fun hc => ?_⟩
                · refine WA_seq (x := (fcd Try.f93 [1, 1, 1, 1, 0, 1, 0, 0, 1, 1, 0, 0, 1, 1, 0, 0, 1, 1, 0, 0, 1, 1, 0, 0])) (y := (fcd Try.f93 [1, 1, 1, 1, 0, 1, 0, 0, 1, 1, 0, 0, 1, 1, 0, 0, 1, 1, 0, 0, 1, 1, 0, 1])) ?_
                  refine V_regionX Γ Δ [] [0, 1, 4, 5, 7, 9, 11, 17, 18, 19, 20, 21, 29, 31, 32, 33, 34, 37, 38, 39, 40, 60] (evs ?_)
                  all_goals (try with_reducible (repeat' (first | apply And.intro | intro _)))
                  all_goals (try (first | with_reducible refine wa_id ?_ | exact True.intro | omega))
                  refine V_ret (evs ?_)
                  first | exact ce1 hc | exact ce2 ‹_› hc | exact ce3 ‹_› hT ‹(j : Int) < _› ‹(i : Int) < _› hc | exact ce4 ‹_› hT hJ.2 hc
                · refine WA_skip ?_
                  refine V_regionX Γ Δ [] [0, 1, 4, 5, 7, 9, 11, 17, 18, 19, 20, 21, 29, 31, 32, 33, 34, 37, 38, 39, 40, 60] (evs ?_)
                  all_goals (try with_reducible (repeat' (first | apply And.intro | intro _)))
                  all_goals (try (first | with_reducible refine wa_id ?_ | exact True.intro | omega))
                  refine V_next [] (i + 1) (evs ?_) ?_ ?_
                  all_goals (try with_reducible (repeat' (first | apply And.intro | intro _)))
                  all_goals (first | exact True.intro | omega | (first | exact w64l ‹(i : Int) < _› ‹(ps.getD j []).length ≤ 281474976710656› | exact ce6 ‹(i : Int) < _› hK.2 hc))
              · refine V_exit (evs ?_)
                refine V_regionX Γ Δ [] [0, 1, 4, 5, 7, 9, 11, 17, 18, 19, 20, 21, 29, 31, 32, 33, 34, 37, 38, 39, 40, 60] (evs ?_)
                all_goals (try with_reducible (repeat' (first | apply And.intro | intro _)))
                all_goals (try (first | with_reducible refine wa_id ?_ | exact True.intro | omega))
                refine V_next [] (j + 1) (evs ?_) ?_ ?_
                all_goals (try with_reducible (repeat' (first | apply And.intro | intro _)))
                all_goals (first | exact True.intro | omega | (first | exact w64l ‹(j : Int) < _› ‹ps.length ≤ 281474976710656› | exact ce5 ‹(j : Int) < _› hJ.2 hK.2 hc))
          · refine V_exit (evs ?_)
            refine WA_seq (x := (fcd Try.f93 [1, 1, 1, 1, 1, 0])) (y := (fcd Try.f93 [1, 1, 1, 1, 1, 1])) ?_
            refine V_regionX Γ Δ [] [0, 1, 4, 5, 7, 9, 11, 17, 18, 19, 20, 21, 29, 31, 32, 33, 34, 37, 38, 39, 40, 60] (evs ?_)
            all_goals (try with_reducible (repeat' (first | apply And.intro | intro _)))
            all_goals (try (first | with_reducible refine wa_id ?_ | exact True.intro | omega))
            refine V_ret (evs ?_)
            first | exact ce1 hc | exact ce2 ‹_› hc | exact ce3 ‹_› hT ‹(j : Int) < _› ‹(i : Int) < _› hc | exact ce4 ‹_› hT hJ.2 hc

/-- imageeditor/imageeditorref20.Check -/
theorem rcheck_fn (ps : List (List Pt)) (rule : Int) : Eng.Fn Try.prog 98 [.sl 1 (ps.map plyC), .i rule] (.dat (.i (checkE ps rule))) := by
  refine Eng.Fn.by (fn := Try.f98) 78 [.tmp 4] Try.func98 rfl Try.ntmps98 rfl (by simp) fun w0 => ?_
  refine WA_seq (x := (fcd Try.f98 [0])) (y := (fcd Try.f98 [1])) ?_
  refine V_regionX Γ Δ [] [0, 1, 4, 5, 6, 7, 8, 9, 10, 16, 20, 31, 35, 44, 77] (evs ?_)
  all_goals (try with_reducible (repeat' (first | apply And.intro | intro _)))
  all_goals (try (first | with_reducible refine wa_id ?_ | exact True.intro | omega))
  refine WA_seq (x := (fcd Try.f98 [1, 0])) (y := (fcd Try.f98 [1, 1])) ?_
  refine WA_seq (x := (fcd Try.f98 [1, 0, 0])) (y := (fcd Try.f98 [1, 0, 1])) ?_
  refine V_regionX Γ Δ [] [0, 1, 4, 5, 6, 7, 8, 9, 10, 16, 20, 31, 35, 44, 77] (evs ?_)
  all_goals (try with_reducible (repeat' (first | apply And.intro | intro _)))
  all_goals (try (first | with_reducible refine wa_id ?_ | exact True.intro | omega))
  refine V_cond (evs ?_)
  refine ⟨fun hc => ?_, fun hc => ?_⟩
  · refine WA_seq (x := (fcd Try.f98 [1, 0, 1, 0, 0])) (y := (fcd Try.f98 [1, 0, 1, 0, 1])) ?_
    refine V_regionX Γ Δ [] [0, 1, 4, 5, 6, 7, 8, 9, 10, 16, 20, 31, 35, 44, 77] (evs ?_)
    all_goals (try with_reducible (repeat' (first | apply And.intro | intro _)))
    all_goals (try (first | with_reducible refine wa_id ?_ | exact True.intro | omega))
    refine V_ret (evs ?_)
    first | exact ce1 hc | exact ce2 ‹_› hc | exact ce3 ‹_› hT ‹(j : Int) < _› ‹(i : Int) < _› hc | exact ce4 ‹_› hT hJ.2 hc
  · refine WA_skip ?_
    refine WA_seq (x := (fcd Try.f98 [1, 1, 0])) (y := (fcd Try.f98 [1, 1, 1])) ?_
    refine V_regionX Γ Δ [] [0, 1, 4, 5, 6, 7, 8, 9, 10, 16, 20, 31, 35, 44, 77] (evs ?_)
    all_goals (try with_reducible (repeat' (first | apply And.intro | intro _)))
    all_goals (try (first | with_reducible refine wa_id ?_ | exact True.intro | omega))
    refine WA_seq (x := (fcd Try.f98 [1, 1, 1, 0])) (y := (fcd Try.f98 [1, 1, 1, 1])) ?_
    refine WA_seq (x := (fcd Try.f98 [1, 1, 1, 0, 0])) (y := (fcd Try.f98 [1, 1, 1, 0, 1])) ?_
    refine V_regionX Γ Δ [] [0, 1, 4, 5, 6, 7, 8, 9, 10, 16, 20, 31, 35, 44, 77] (evs ?_)
    all_goals (try with_reducible (repeat' (first | apply And.intro | intro _)))
    all_goals (try (first | with_reducible refine wa_id ?_ | exact True.intro | omega))
    refine WA_block (c := (fcd Try.f98 [1, 1, 1, 0, 1, 0])) ?_
    refine V_loop (c := (fcd Try.f98 [1, 1, 1, 0, 1, 0, 0])) (α := Nat) [4, 5, 6, 20, 31] [] (fun k => [(6, .dat (.i (k : Int))), (5, .dat (.i (total (ps.take k) : Nat)))]) (fun k => []) (fun k => k ≤ ps.length ∧ total (ps.take k) ≤ 4096) (fun k => ps.length - k) 0 [] ?_ (evs ?_) ?_
    · exact ⟨Nat.zero_le _, Nat.zero_le _⟩
    · (try with_reducible (repeat' (first | apply And.intro | intro _)))
      all_goals (first | exact True.intro | omega | (simp [total]))
    · intro k hI
      refine WA_seq (x := (fcd Try.f98 [1, 1, 1, 0, 1, 0, 0, 0])) (y := (fcd Try.f98 [1, 1, 1, 0, 1, 0, 0, 1])) ?_
      refine WA_seq (x := (fcd Try.f98 [1, 1, 1, 0, 1, 0, 0, 0, 0])) (y := (fcd Try.f98 [1, 1, 1, 0, 1, 0, 0, 0, 1])) ?_
      refine V_regionX Γ Δ [] [0, 1, 4, 5, 6, 7, 8, 9, 10, 16, 20, 31, 35, 44, 77] (evs ?_)
      all_goals (try with_reducible (repeat' (first | apply And.intro | intro _)))
      all_goals (try (first | with_reducible refine wa_id ?_ | exact True.intro | omega))
      refine V_cond (evs ?_)
      refine ⟨fun hc => ?_, fun hc => ?_⟩
      · refine WA_skip ?_
        refine WA_seq (x := (fcd Try.f98 [1, 1, 1, 0, 1, 0, 0, 1, 0])) (y := (fcd Try.f98 [1, 1, 1, 0, 1, 0, 0, 1, 1])) ?_
        refine WA_block (c := (fcd Try.f98 [1, 1, 1, 0, 1, 0, 0, 1, 0, 0])) ?_
        refine WA_seq (x := (fcd Try.f98 [1, 1, 1, 0, 1, 0, 0, 1, 0, 0, 0])) (y := (fcd Try.f98 [1, 1, 1, 0, 1, 0, 0, 1, 0, 0, 1])) ?_
        refine V_regionX Γ Δ [] [0, 1, 4, 5, 6, 7, 8, 9, 10, 16, 20, 31, 35, 44, 77] (evs ?_)
        all_goals (try with_reducible (repeat' (first | apply And.intro | intro _)))
        all_goals (try (first | with_reducible refine wa_id ?_ | exact True.intro | omega))
        simp only [ck1 hI.2 ‹(k : Int) < _› ‹(ps.getD k []).length ≤ 281474976710656›]
        refine WA_seq (x := (fcd Try.f98 [1, 1, 1, 0, 1, 0, 0, 1, 0, 0, 1, 0])) (y := (fcd Try.f98 [1, 1, 1, 0, 1, 0, 0, 1, 0, 0, 1, 1])) ?_
        refine V_regionX Γ Δ [] [0, 1, 4, 5, 6, 7, 8, 9, 10, 16, 20, 31, 35, 44, 77] (evs ?_)
        all_goals (try with_reducible (repeat' (first | apply And.intro | intro _)))
        all_goals (try (first | with_reducible refine wa_id ?_ | exact True.intro | omega))
        refine V_cond (evs ?_)
        refine ⟨fun hc => ?_, fun hc => ?_⟩
        · refine WA_seq (x := (fcd Try.f98 [1, 1, 1, 0, 1, 0, 0, 1, 0, 0, 1, 1, 0, 0])) (y := (fcd Try.f98 [1, 1, 1, 0, 1, 0, 0, 1, 0, 0, 1, 1, 0, 1])) ?_
          refine V_regionX Γ Δ [] [0, 1, 4, 5, 6, 7, 8, 9, 10, 16, 20, 31, 35, 44, 77] (evs ?_)
          all_goals (try with_reducible (repeat' (first | apply And.intro | intro _)))
          all_goals (try (first | with_reducible refine wa_id ?_ | exact True.intro | omega))
          refine V_ret (evs ?_)
          first | exact ce1 hc | exact ce2 ‹_› hc | exact ce3 ‹_› hT ‹(j : Int) < _› ‹(i : Int) < _› hc | exact ce4 ‹_› hT hJ.2 hc
        · refine WA_skip ?_
          refine V_regionX Γ Δ [] [0, 1, 4, 5, 6, 7, 8, 9, 10, 16, 20, 31, 35, 44, 77] (evs ?_)
          all_goals (try with_reducible (repeat' (first | apply And.intro | intro _)))
          all_goals (try (first | with_reducible refine wa_id ?_ | exact True.intro | omega))
          refine V_next [] (k + 1) (evs ?_) ?_ ?_
          all_goals (try with_reducible (repeat' (first | apply And.intro | intro _)))
          all_goals (first | exact True.intro | omega | (first | exact w64l ‹(k : Int) < _› ‹ps.length ≤ 281474976710656› | rfl))
      · refine V_exit (evs ?_)
        refine WA_seq (x := (fcd Try.f98 [1, 1, 1, 1, 0])) (y := (fcd Try.f98 [1, 1, 1, 1, 1])) ?_
        refine V_regionX Γ Δ [] [0, 1, 4, 5, 6, 7, 8, 9, 10, 16, 20, 31, 35, 44, 77] (evs ?_)
        all_goals (try with_reducible (repeat' (first | apply And.intro | intro _)))
        all_goals (try (first | with_reducible refine wa_id ?_ | exact True.intro | omega))
        have hT := ck2 hI.1 hI.2 hc
        refine WA_seq (x := (fcd Try.f98 [1, 1, 1, 1, 1, 0])) (y := (fcd Try.f98 [1, 1, 1, 1, 1, 1])) ?_
        refine WA_seq (x := (fcd Try.f98 [1, 1, 1, 1, 1, 0, 0])) (y := (fcd Try.f98 [1, 1, 1, 1, 1, 0, 1])) ?_
        refine V_regionX Γ Δ [] [0, 1, 4, 5, 6, 7, 8, 9, 10, 16, 20, 31, 35, 44, 77] (evs ?_)
        all_goals (try with_reducible (repeat' (first | apply And.intro | intro _)))
        all_goals (try (first | with_reducible refine wa_id ?_ | exact True.intro | omega))
        refine WA_block (c := (fcd Try.f98 [1, 1, 1, 1, 1, 0, 1, 0])) ?_
        refine V_loop (c := (fcd Try.f98 [1, 1, 1, 1, 1, 0, 1, 0, 0])) (α := Nat) [4, 8, 9, 10, 35, 44, 77] [10] (fun j => [(8, .dat (.i (j : Int)))]) (fun j => []) (fun j => j ≤ ps.length ∧ (ps.take j).all (fun p => p.all ptOk) = true) (fun j => ps.length - j) 0 [] ?_ (evs ?_) ?_
        · exact ⟨Nat.zero_le _, rfl⟩
        · (try with_reducible (repeat' (first | apply And.intro | intro _)))
          all_goals (first | exact True.intro | omega | (rfl))
        · intro j hJ
          refine WA_seq (x := (fcd Try.f98 [1, 1, 1, 1, 1, 0, 1, 0, 0, 0])) (y := (fcd Try.f98 [1, 1, 1, 1, 1, 0, 1, 0, 0, 1])) ?_
          refine WA_seq (x := (fcd Try.f98 [1, 1, 1, 1, 1, 0, 1, 0, 0, 0, 0])) (y := (fcd Try.f98 [1, 1, 1, 1, 1, 0, 1, 0, 0, 0, 1])) ?_
          refine V_regionX Γ Δ [] [0, 1, 4, 5, 6, 7, 8, 9, 10, 16, 20, 31, 35, 44, 77] (evs ?_)
          all_goals (try with_reducible (repeat' (first | apply And.intro | intro _)))
          all_goals (try (first | with_reducible refine wa_id ?_ | exact True.intro | omega))
          refine V_cond (evs ?_)
          refine ⟨fun hc => ?_, fun hc => ?_⟩
          · refine WA_skip ?_
            refine WA_seq (x := (fcd Try.f98 [1, 1, 1, 1, 1, 0, 1, 0, 0, 1, 0])) (y := (fcd Try.f98 [1, 1, 1, 1, 1, 0, 1, 0, 0, 1, 1])) ?_
            refine WA_block (c := (fcd Try.f98 [1, 1, 1, 1, 1, 0, 1, 0, 0, 1, 0, 0])) ?_
            refine WA_seq (x := (fcd Try.f98 [1, 1, 1, 1, 1, 0, 1, 0, 0, 1, 0, 0, 0])) (y := (fcd Try.f98 [1, 1, 1, 1, 1, 0, 1, 0, 0, 1, 0, 0, 1])) ?_
            refine V_regionX Γ Δ [] [0, 1, 4, 5, 6, 7, 8, 9, 10, 16, 20, 31, 35, 44, 77] (evs ?_)
            all_goals (try with_reducible (repeat' (first | apply And.intro | intro _)))
            all_goals (try (first | with_reducible refine wa_id ?_ | exact True.intro | omega))
            refine WA_block (c := (fcd Try.f98 [1, 1, 1, 1, 1, 0, 1, 0, 0, 1, 0, 0, 1, 0])) ?_
            refine V_loop (c := (fcd Try.f98 [1, 1, 1, 1, 1, 0, 1, 0, 0, 1, 0, 0, 1, 0, 0])) (α := Nat) [4, 9, 10, 44, 77] [10] (fun i => [(9, .dat (.i (i : Int)))]) (fun i => []) (fun i => i ≤ (ps.getD j []).length ∧ ((ps.getD j []).take i).all ptOk = true) (fun i => (ps.getD j []).length - i) 0 [] ?_ (evs ?_) ?_
            · exact ⟨Nat.zero_le _, rfl⟩
            · (try with_reducible (repeat' (first | apply And.intro | intro _)))
              all_goals (first | exact True.intro | omega | (rfl))
            · intro i hK
              refine WA_seq (x := (fcd Try.f98 [1, 1, 1, 1, 1, 0, 1, 0, 0, 1, 0, 0, 1, 0, 0, 0])) (y := (fcd Try.f98 [1, 1, 1, 1, 1, 0, 1, 0, 0, 1, 0, 0, 1, 0, 0, 1])) ?_
              refine WA_seq (x := (fcd Try.f98 [1, 1, 1, 1, 1, 0, 1, 0, 0, 1, 0, 0, 1, 0, 0, 0, 0])) (y := (fcd Try.f98 [1, 1, 1, 1, 1, 0, 1, 0, 0, 1, 0, 0, 1, 0, 0, 0, 1])) ?_
              refine V_regionX Γ Δ [] [0, 1, 4, 5, 6, 7, 8, 9, 10, 16, 20, 31, 35, 44, 77] (evs ?_)
              all_goals (try with_reducible (repeat' (first | apply And.intro | intro _)))
              all_goals (try (first | with_reducible refine wa_id ?_ | exact True.intro | omega))
              refine V_cond (evs ?_)
              refine ⟨fun hc => ?_, fun hc => ?_⟩
              · refine WA_skip ?_
                refine WA_seq (x := (fcd Try.f98 [1, 1, 1, 1, 1, 0, 1, 0, 0, 1, 0, 0, 1, 0, 0, 1, 0])) (y := (fcd Try.f98 [1, 1, 1, 1, 1, 0, 1, 0, 0, 1, 0, 0, 1, 0, 0, 1, 1])) ?_
                refine WA_block (c := (fcd Try.f98 [1, 1, 1, 1, 1, 0, 1, 0, 0, 1, 0, 0, 1, 0, 0, 1, 0, 0])) ?_
                refine WA_seq (x := (fcd Try.f98 [1, 1, 1, 1, 1, 0, 1, 0, 0, 1, 0, 0, 1, 0, 0, 1, 0, 0, 0])) (y := (fcd Try.f98 [1, 1, 1, 1, 1, 0, 1, 0, 0, 1, 0, 0, 1, 0, 0, 1, 0, 0, 1])) ?_
                refine V_regionX Γ Δ [] [0, 1, 4, 5, 6, 7, 8, 9, 10, 16, 20, 31, 35, 44, 77] (evs ?_)
                all_goals (try with_reducible (repeat' (first | apply And.intro | intro _)))
                all_goals (try (first | with_reducible refine wa_id ?_ | exact True.intro | omega))
                refine WA_seq (x := (fcd Try.f98 [1, 1, 1, 1, 1, 0, 1, 0, 0, 1, 0, 0, 1, 0, 0, 1, 0, 0, 1, 0])) (y := (fcd Try.f98 [1, 1, 1, 1, 1, 0, 1, 0, 0, 1, 0, 0, 1, 0, 0, 1, 0, 0, 1, 1])) ?_
                refine V_regionX Γ Δ [] [0, 1, 4, 5, 6, 7, 8, 9, 10, 16, 20, 31, 35, 44, 77] (evs ?_)
                all_goals (try with_reducible (repeat' (first | apply And.intro | intro _)))
                all_goals (try (first | with_reducible refine wa_id ?_ | exact True.intro | omega))
                refine V_cond (evs ?_)
                refine ⟨fun hc => ?_, fun hc => ?_⟩
                · refine WA_seq (x := (fcd Try.f98 [1, 1, 1, 1, 1, 0, 1, 0, 0, 1, 0, 0, 1, 0, 0, 1, 0, 0, 1, 1, 0, 0])) (y := (fcd Try.f98 [1, 1, 1, 1, 1, 0, 1, 0, 0, 1, 0, 0, 1, 0, 0, 1, 0, 0, 1, 1, 0, 1])) ?_
                  refine V_regionX Γ Δ [] [0, 1, 4, 5, 6, 7, 8, 9, 10, 16, 20, 31, 35, 44, 77] (evs ?_)
                  all_goals (try with_reducible (repeat' (first | apply And.intro | intro _)))
                  all_goals (try (first | with_reducible refine wa_id ?_ | exact True.intro | omega))
                  refine V_ret (evs ?_)
                  first | exact ce1 hc | exact ce2 ‹_› hc | exact ce3 ‹_› hT ‹(j : Int) < _› ‹(i : Int) < _› hc | exact ce4 ‹_› hT hJ.2 hc
                · refine WA_skip ?_
                  refine V_regionX Γ Δ [] [0, 1, 4, 5, 6, 7, 8, 9, 10, 16, 20, 31, 35, 44, 77] (evs ?_)
                  all_goals (try with_reducible (repeat' (first | apply And.intro | intro _)))
                  all_goals (try (first | with_reducible refine wa_id ?_ | exact True.intro | omega))
                  refine V_next [] (i + 1) (evs ?_) ?_ ?_
                  all_goals (try with_reducible (repeat' (first | apply And.intro | intro _)))
                  all_goals (first | exact True.intro | omega | (first | exact w64l ‹(i : Int) < _› ‹(ps.getD j []).length ≤ 281474976710656› | exact ce6 ‹(i : Int) < _› hK.2 hc))
              · refine V_exit (evs ?_)
                refine V_regionX Γ Δ [] [0, 1, 4, 5, 6, 7, 8, 9, 10, 16, 20, 31, 35, 44, 77] (evs ?_)
                all_goals (try with_reducible (repeat' (first | apply And.intro | intro _)))
                all_goals (try (first | with_reducible refine wa_id ?_ | exact True.intro | omega))
                refine V_next [] (j + 1) (evs ?_) ?_ ?_
                all_goals (try with_reducible (repeat' (first | apply And.intro | intro _)))
                all_goals (first | exact True.intro | omega | (first | exact w64l ‹(j : Int) < _› ‹ps.length ≤ 281474976710656› | exact ce5 ‹(j : Int) < _› hJ.2 hK.2 hc))
          · refine V_exit (evs ?_)
            refine WA_seq (x := (fcd Try.f98 [1, 1, 1, 1, 1, 1, 0])) (y := (fcd Try.f98 [1, 1, 1, 1, 1, 1, 1])) ?_
            refine V_regionX Γ Δ [] [0, 1, 4, 5, 6, 7, 8, 9, 10, 16, 20, 31, 35, 44, 77] (evs ?_)
            all_goals (try with_reducible (repeat' (first | apply And.intro | intro _)))
            all_goals (try (first | with_reducible refine wa_id ?_ | exact True.intro | omega))
            refine V_ret (evs ?_)
            first | exact ce1 hc | exact ce2 ‹_› hc | exact ce3 ‹_› hT ‹(j : Int) < _› ‹(i : Int) < _› hc | exact ce4 ‹_› hT hJ.2 hc

end Go.S23

