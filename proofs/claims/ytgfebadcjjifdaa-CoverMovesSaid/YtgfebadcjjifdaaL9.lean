import Derived.Test.YtgfebadcjjifdaaA15
namespace Go.S20
open Go.RowKit Go.Proofs Go.Eng Go.Rect
set_option maxHeartbeats 4000000 in
set_option maxRecDepth 100000 in
/-- imageeditor/imageeditorlaw20.CoverMoves -/
theorem l_moves (ps : List (List Pt)) (rule : Int) (r : Rc) (dx dy : Int) (h1 : ps.length * 24 ≤ 140737488355328) (h2 : ∀ p ∈ ps, p.length ≤ 8796093022208) (hx : -128 ≤ dx ∧ dx ≤ 127) (hy : -128 ≤ dy ∧ dy ≤ 127) : Eng.Fn Try.prog 9 [.sl 1 (ps.map plyC), .i rule, rcD r, .v (.int .i8 dx), .v (.int .i8 dy)] (.dat (.b true)) := by
  refine Eng.Fn.by (fn := Try.f9) 117 [.tmp 10] Try.func9 rfl Try.ntmps9 rfl (by simp) fun w0 => ?_
  refine WA_seq (x := (fcd Try.f9 [0])) (y := (fcd Try.f9 [1])) ?_
  refine V_regionX Γ Δ [67, 72, 96, 103] [0, 1, 2, 3, 4, 7, 10, 11, 13, 14, 16, 17, 18, 19, 20, 21, 22, 23, 24, 25, 28, 29, 30, 31, 51, 90] (evs ?_)
  all_goals (try with_reducible (repeat' (first | apply And.intro | intro _)))
  all_goals (try (first | with_reducible refine wa_id ?_ | exact True.intro | omega | exact move_fn ⟨_, _, _, _⟩ ⟨_, _⟩ | (rw [MQ_len hI.1]; have := getB h2 j; omega) | (rw [MV_len hJ.1]; omega) | exact MQ_len hI.1 | exact MV_len hJ.1))
  refine WA_seq (x := (fcd Try.f9 [1, 0])) (y := (fcd Try.f9 [1, 1])) ?_
  refine V_regionX Γ Δ [67, 72, 96, 103] [0, 1, 2, 3, 4, 7, 10, 11, 13, 14, 16, 17, 18, 19, 20, 21, 22, 23, 24, 25, 28, 29, 30, 31, 51, 90] (evs ?_)
  all_goals (try with_reducible (repeat' (first | apply And.intro | intro _)))
  all_goals (try (first | with_reducible refine wa_id ?_ | exact True.intro | omega | exact move_fn ⟨_, _, _, _⟩ ⟨_, _⟩ | (rw [MQ_len hI.1]; have := getB h2 j; omega) | (rw [MV_len hJ.1]; omega) | exact MQ_len hI.1 | exact MV_len hJ.1))
  refine WA_seq (x := (fcd Try.f9 [1, 1, 0])) (y := (fcd Try.f9 [1, 1, 1])) ?_
  refine WA_seq (x := (fcd Try.f9 [1, 1, 0, 0])) (y := (fcd Try.f9 [1, 1, 0, 1])) ?_
  refine V_regionX Γ Δ [67, 72, 96, 103] [0, 1, 2, 3, 4, 7, 10, 11, 13, 14, 16, 17, 18, 19, 20, 21, 22, 23, 24, 25, 28, 29, 30, 31, 51, 90] (evs ?_)
  all_goals (try with_reducible (repeat' (first | apply And.intro | intro _)))
  all_goals (try (first | with_reducible refine wa_id ?_ | exact True.intro | omega | exact move_fn ⟨_, _, _, _⟩ ⟨_, _⟩ | (rw [MQ_len hI.1]; have := getB h2 j; omega) | (rw [MV_len hJ.1]; omega) | exact MQ_len hI.1 | exact MV_len hJ.1))
  refine WA_block (c := (fcd Try.f9 [1, 1, 0, 1, 0])) ?_
  refine V_loop (c := (fcd Try.f9 [1, 1, 0, 1, 0, 0])) (α := Nat) [10, 11, 13, 14, 16, 24, 25, 28, 29, 30, 31, 51] [16, 67, 68, 72, 73, 15200, 15201, 15202, 15203] (fun j => [(24, .dat (.i (j : Int))), (11, .vw 20000 0 (MV ps dx dy j).length 1)]) (fun j => [(20000, some (true, .arr 29 1 ((MV ps dx dy j).map plyC)))]) (fun j => j ≤ ps.length ∧ ∀ p ∈ ps.take j, ∀ a ∈ p, smallP a = true) (fun j => ps.length - j) 0 [(20000, none)] ?_ (evs ?_) ?_
  · exact ⟨Nat.zero_le _, by simp⟩
  · (try with_reducible (repeat' (first | apply And.intro | intro _)))
    all_goals (first | exact True.intro | omega | (first | rfl | simp [MV]))
  · intro j hJ
    refine WA_seq (x := (fcd Try.f9 [1, 1, 0, 1, 0, 0, 0])) (y := (fcd Try.f9 [1, 1, 0, 1, 0, 0, 1])) ?_
    refine V_regionX Γ Δ [67, 72, 96, 103] [0, 1, 2, 3, 4, 7, 10, 11, 13, 14, 16, 17, 18, 19, 20, 21, 22, 23, 24, 25, 28, 29, 30, 31, 51, 90] (evs ?_)
    all_goals (try with_reducible (repeat' (first | apply And.intro | intro _)))
    all_goals (try (first | with_reducible refine wa_id ?_ | exact True.intro | omega | exact move_fn ⟨_, _, _, _⟩ ⟨_, _⟩ | (rw [MQ_len hI.1]; have := getB h2 j; omega) | (rw [MV_len hJ.1]; omega) | exact MQ_len hI.1 | exact MV_len hJ.1))
    refine WA_seq (x := (fcd Try.f9 [1, 1, 0, 1, 0, 0, 1, 0])) (y := (fcd Try.f9 [1, 1, 0, 1, 0, 0, 1, 1])) ?_
    refine V_cond (evs ?_)
    refine ⟨fun hc => ?_, fun hc => ?_⟩
    · refine WA_skip ?_
      refine WA_seq (x := (fcd Try.f9 [1, 1, 0, 1, 0, 0, 1, 1, 0])) (y := (fcd Try.f9 [1, 1, 0, 1, 0, 0, 1, 1, 1])) ?_
      refine WA_block (c := (fcd Try.f9 [1, 1, 0, 1, 0, 0, 1, 1, 0, 0])) ?_
      refine WA_seq (x := (fcd Try.f9 [1, 1, 0, 1, 0, 0, 1, 1, 0, 0, 0])) (y := (fcd Try.f9 [1, 1, 0, 1, 0, 0, 1, 1, 0, 0, 1])) ?_
      refine V_regionX Γ Δ [67, 72, 96, 103] [0, 1, 2, 3, 4, 7, 10, 11, 13, 14, 16, 17, 18, 19, 20, 21, 22, 23, 24, 25, 28, 29, 30, 31, 51, 90] (evs ?_)
      all_goals (try with_reducible (repeat' (first | apply And.intro | intro _)))
      all_goals (try (first | with_reducible refine wa_id ?_ | exact True.intro | omega | exact move_fn ⟨_, _, _, _⟩ ⟨_, _⟩ | (rw [MQ_len hI.1]; have := getB h2 j; omega) | (rw [MV_len hJ.1]; omega) | exact MQ_len hI.1 | exact MV_len hJ.1))
      refine WA_seq (x := (fcd Try.f9 [1, 1, 0, 1, 0, 0, 1, 1, 0, 0, 1, 0])) (y := (fcd Try.f9 [1, 1, 0, 1, 0, 0, 1, 1, 0, 0, 1, 1])) ?_
      refine V_regionX Γ Δ [67, 72, 96, 103] [0, 1, 2, 3, 4, 7, 10, 11, 13, 14, 16, 17, 18, 19, 20, 21, 22, 23, 24, 25, 28, 29, 30, 31, 51, 90] (evs ?_)
      all_goals (try with_reducible (repeat' (first | apply And.intro | intro _)))
      all_goals (try (first | with_reducible refine wa_id ?_ | exact True.intro | omega | exact move_fn ⟨_, _, _, _⟩ ⟨_, _⟩ | (rw [MQ_len hI.1]; have := getB h2 j; omega) | (rw [MV_len hJ.1]; omega) | exact MQ_len hI.1 | exact MV_len hJ.1))
      refine V_cut (x := (fcd Try.f9 [1, 1, 0, 1, 0, 0, 1, 1, 0, 0, 1, 1, 0])) (y := (fcd Try.f9 [1, 1, 0, 1, 0, 0, 1, 1, 0, 0, 1, 1, 1])) (α := Unit) [10, 14, 16, 28, 29, 30, 31, 51] [16, 67, 68, 15200, 15201, 15202, 15203] (fun _ => [(14, .dat (.sl 2 (((ps.getD j []).map (mvP dx dy)).map ptC)))]) (fun _ => []) (fun _ => ∀ a ∈ (ps.getD j []), smallP a = true) ?_ ?_
      · refine WA_seq (x := (fcd Try.f9 [1, 1, 0, 1, 0, 0, 1, 1, 0, 0, 1, 1, 0, 0])) (y := (fcd Try.f9 [1, 1, 0, 1, 0, 0, 1, 1, 0, 0, 1, 1, 0, 1])) ?_
        refine V_regionX Γ Δ [67, 72, 96, 103] [0, 1, 2, 3, 4, 7, 10, 11, 13, 14, 16, 17, 18, 19, 20, 21, 22, 23, 24, 25, 28, 29, 30, 31, 51, 90] (evs ?_)
        all_goals (try with_reducible (repeat' (first | apply And.intro | intro _)))
        all_goals (try (first | with_reducible refine wa_id ?_ | exact True.intro | omega | exact move_fn ⟨_, _, _, _⟩ ⟨_, _⟩ | (rw [MQ_len hI.1]; have := getB h2 j; omega) | (rw [MV_len hJ.1]; omega) | exact MQ_len hI.1 | exact MV_len hJ.1))
        refine WA_block (c := (fcd Try.f9 [1, 1, 0, 1, 0, 0, 1, 1, 0, 0, 1, 1, 0, 1, 0])) ?_
        refine V_loop (c := (fcd Try.f9 [1, 1, 0, 1, 0, 0, 1, 1, 0, 0, 1, 1, 0, 1, 0, 0])) (α := Nat) [10, 14, 16, 30, 31, 51] [16, 67, 68, 15200, 15201, 15202, 15203] (fun i => [(30, .dat (.i (i : Int))), (14, .vw 20001 0 (MQ (ps.getD j []) dx dy i).length 2)]) (fun i => [(20001, some (true, .arr 48 2 ((MQ (ps.getD j []) dx dy i).map ptC)))]) (fun i => i ≤ (ps.getD j []).length ∧ ∀ a ∈ (ps.getD j []).take i, smallP a = true) (fun i => (ps.getD j []).length - i) 0 [(20001, none)] ?_ (evs ?_) ?_
        · exact ⟨Nat.zero_le _, by simp⟩
        · (try with_reducible (repeat' (first | apply And.intro | intro _)))
          all_goals (first | exact True.intro | omega | (first | rfl | simp [MQ]))
        · intro i hI
          refine WA_seq (x := (fcd Try.f9 [1, 1, 0, 1, 0, 0, 1, 1, 0, 0, 1, 1, 0, 1, 0, 0, 0])) (y := (fcd Try.f9 [1, 1, 0, 1, 0, 0, 1, 1, 0, 0, 1, 1, 0, 1, 0, 0, 1])) ?_
          refine V_regionX Γ Δ [67, 72, 96, 103] [0, 1, 2, 3, 4, 7, 10, 11, 13, 14, 16, 17, 18, 19, 20, 21, 22, 23, 24, 25, 28, 29, 30, 31, 51, 90] (evs ?_)
          all_goals (try with_reducible (repeat' (first | apply And.intro | intro _)))
          all_goals (try (first | with_reducible refine wa_id ?_ | exact True.intro | omega | exact move_fn ⟨_, _, _, _⟩ ⟨_, _⟩ | (rw [MQ_len hI.1]; have := getB h2 j; omega) | (rw [MV_len hJ.1]; omega) | exact MQ_len hI.1 | exact MV_len hJ.1))
          refine WA_seq (x := (fcd Try.f9 [1, 1, 0, 1, 0, 0, 1, 1, 0, 0, 1, 1, 0, 1, 0, 0, 1, 0])) (y := (fcd Try.f9 [1, 1, 0, 1, 0, 0, 1, 1, 0, 0, 1, 1, 0, 1, 0, 0, 1, 1])) ?_
          refine V_cond (evs ?_)
          refine ⟨fun hc => ?_, fun hc => ?_⟩
          · refine WA_skip ?_
            refine WA_seq (x := (fcd Try.f9 [1, 1, 0, 1, 0, 0, 1, 1, 0, 0, 1, 1, 0, 1, 0, 0, 1, 1, 0])) (y := (fcd Try.f9 [1, 1, 0, 1, 0, 0, 1, 1, 0, 0, 1, 1, 0, 1, 0, 0, 1, 1, 1])) ?_
            refine WA_block (c := (fcd Try.f9 [1, 1, 0, 1, 0, 0, 1, 1, 0, 0, 1, 1, 0, 1, 0, 0, 1, 1, 0, 0])) ?_
            refine WA_seq (x := (fcd Try.f9 [1, 1, 0, 1, 0, 0, 1, 1, 0, 0, 1, 1, 0, 1, 0, 0, 1, 1, 0, 0, 0])) (y := (fcd Try.f9 [1, 1, 0, 1, 0, 0, 1, 1, 0, 0, 1, 1, 0, 1, 0, 0, 1, 1, 0, 0, 1])) ?_
            refine V_regionX Γ Δ [67, 72, 96, 103] [0, 1, 2, 3, 4, 7, 10, 11, 13, 14, 16, 17, 18, 19, 20, 21, 22, 23, 24, 25, 28, 29, 30, 31, 51, 90] (evs ?_)
            all_goals (try with_reducible (repeat' (first | apply And.intro | intro _)))
            all_goals (try (first | with_reducible refine wa_id ?_ | exact True.intro | omega | exact move_fn ⟨_, _, _, _⟩ ⟨_, _⟩ | (rw [MQ_len hI.1]; have := getB h2 j; omega) | (rw [MV_len hJ.1]; omega) | exact MQ_len hI.1 | exact MV_len hJ.1))
            refine WA_seq (x := (fcd Try.f9 [1, 1, 0, 1, 0, 0, 1, 1, 0, 0, 1, 1, 0, 1, 0, 0, 1, 1, 0, 0, 1, 0])) (y := (fcd Try.f9 [1, 1, 0, 1, 0, 0, 1, 1, 0, 0, 1, 1, 0, 1, 0, 0, 1, 1, 0, 0, 1, 1])) ?_
            refine WA_seq (x := (fcd Try.f9 [1, 1, 0, 1, 0, 0, 1, 1, 0, 0, 1, 1, 0, 1, 0, 0, 1, 1, 0, 0, 1, 0, 0])) (y := (fcd Try.f9 [1, 1, 0, 1, 0, 0, 1, 1, 0, 0, 1, 1, 0, 1, 0, 0, 1, 1, 0, 0, 1, 0, 1])) ?_
            refine V_regionX Γ Δ [67, 72, 96, 103] [0, 1, 2, 3, 4, 7, 10, 11, 13, 14, 16, 17, 18, 19, 20, 21, 22, 23, 24, 25, 28, 29, 30, 31, 51, 90] (evs ?_)
            all_goals (try with_reducible (repeat' (first | apply And.intro | intro _)))
            all_goals (try (first | with_reducible refine wa_id ?_ | exact True.intro | omega | exact move_fn ⟨_, _, _, _⟩ ⟨_, _⟩ | (rw [MQ_len hI.1]; have := getB h2 j; omega) | (rw [MV_len hJ.1]; omega) | exact MQ_len hI.1 | exact MV_len hJ.1))
            refine V_cond (evs ?_)
            refine ⟨fun hc => ?_, fun hc => ?_⟩
            · refine WA_seq (x := (fcd Try.f9 [1, 1, 0, 1, 0, 0, 1, 1, 0, 0, 1, 1, 0, 1, 0, 0, 1, 1, 0, 0, 1, 0, 1, 0, 0])) (y := (fcd Try.f9 [1, 1, 0, 1, 0, 0, 1, 1, 0, 0, 1, 1, 0, 1, 0, 0, 1, 1, 0, 0, 1, 0, 1, 0, 1])) ?_
              refine V_regionX Γ Δ [67, 72, 96, 103] [0, 1, 2, 3, 4, 7, 10, 11, 13, 14, 16, 17, 18, 19, 20, 21, 22, 23, 24, 25, 28, 29, 30, 31, 51, 90] (evs ?_)
              all_goals (try with_reducible (repeat' (first | apply And.intro | intro _)))
              all_goals (try (first | with_reducible refine wa_id ?_ | exact True.intro | exact awake_fn | omega | exact move_fn ⟨_, _, _, _⟩ ⟨_, _⟩ | (rw [MQ_len hI.1]; have := getB h2 j; omega) | (rw [MV_len hJ.1]; omega) | exact MQ_len hI.1 | exact MV_len hJ.1))
              refine V_ret (evs ?_)
              first | exact True.intro | exact mvfin mm
            · refine WA_skip ?_
              refine V_regionX Γ Δ [67, 72, 96, 103] [0, 1, 2, 3, 4, 7, 10, 11, 13, 14, 16, 17, 18, 19, 20, 21, 22, 23, 24, 25, 28, 29, 30, 31, 51, 90] (evs ?_)
              have hp := sm_in hc
              have hp2 := hc
              simp (disch := omega) only [w64]
              all_goals (try with_reducible (repeat' (first | apply And.intro | intro _)))
              all_goals (try (first | with_reducible refine wa_id ?_ | exact True.intro | omega | exact move_fn ⟨_, _, _, _⟩ ⟨_, _⟩ | (rw [MQ_len hI.1]; have := getB h2 j; omega) | (rw [MV_len hJ.1]; omega) | exact MQ_len hI.1 | exact MV_len hJ.1))
              refine V_regionX Γ Δ [67, 72, 96, 103] [0, 1, 2, 3, 4, 7, 10, 11, 13, 14, 16, 17, 18, 19, 20, 21, 22, 23, 24, 25, 28, 29, 30, 31, 51, 90] (evs ?_)
              all_goals (try with_reducible (repeat' (first | apply And.intro | intro _)))
              all_goals (try (first | with_reducible refine wa_id ?_ | exact True.intro | omega | exact move_fn ⟨_, _, _, _⟩ ⟨_, _⟩ | (rw [MQ_len hI.1]; have := getB h2 j; omega) | (rw [MV_len hJ.1]; omega) | exact MQ_len hI.1 | exact MV_len hJ.1))
              refine V_next [(20001, some 68)] (i + 1) (evs ?_) ?_ ?_
              all_goals (try with_reducible (repeat' (first | apply And.intro | intro _)))
              all_goals (first | exact True.intro | omega | (first | exact w64l ‹(i : Int) < _› ‹(ps.getD j []).length ≤ 281474976710656› | exact w64l ‹(j : Int) < _› ‹ps.length ≤ 281474976710656› | exact MQ_next ‹(i : Int) < _› | (rw [MQ_len (by omega), MQ_len (by omega)]) | exact sm_next ‹(i : Int) < _› hI.2 hp _ ‹_›))
          · refine V_exit (evs ?_)
            refine V_jn [] () (evs ?_) ?_
            all_goals (try with_reducible (repeat' (first | apply And.intro | intro _)))
            all_goals (first | exact True.intro | omega | (first | (rw [MQ_all hc]) | (have := hI.2; rw [List.take_of_length_le (by omega)] at this; exact this _ ‹_›) | (rw [MQ_len hI.1])))
      · intro _ hz
        refine V_regionX Γ Δ [67, 72, 96, 103] [0, 1, 2, 3, 4, 7, 10, 11, 13, 14, 16, 17, 18, 19, 20, 21, 22, 23, 24, 25, 28, 29, 30, 31, 51, 90] (evs ?_)
        all_goals (try with_reducible (repeat' (first | apply And.intro | intro _)))
        all_goals (try (first | with_reducible refine wa_id ?_ | exact True.intro | omega | exact move_fn ⟨_, _, _, _⟩ ⟨_, _⟩ | (rw [MQ_len hI.1]; have := getB h2 j; omega) | (rw [MV_len hJ.1]; omega) | exact MQ_len hI.1 | exact MV_len hJ.1))
        refine V_regionX Γ Δ [67, 72, 96, 103] [0, 1, 2, 3, 4, 7, 10, 11, 13, 14, 16, 17, 18, 19, 20, 21, 22, 23, 24, 25, 28, 29, 30, 31, 51, 90] (evs ?_)
        all_goals (try with_reducible (repeat' (first | apply And.intro | intro _)))
        all_goals (try (first | with_reducible refine wa_id ?_ | exact True.intro | omega | exact move_fn ⟨_, _, _, _⟩ ⟨_, _⟩ | (rw [MQ_len hI.1]; have := getB h2 j; omega) | (rw [MV_len hJ.1]; omega) | exact MQ_len hI.1 | exact MV_len hJ.1))
        refine V_next [(20000, some 73)] (j + 1) (evs ?_) ?_ ?_
        all_goals (try with_reducible (repeat' (first | apply And.intro | intro _)))
        all_goals (first | exact True.intro | omega | (first | exact w64l ‹(i : Int) < _› ‹(ps.getD j []).length ≤ 281474976710656› | exact w64l ‹(j : Int) < _› ‹ps.length ≤ 281474976710656› | exact MV_next ‹(j : Int) < _› | (rw [MV_len (by omega), MV_len (by omega)]) | exact sms_next ‹(j : Int) < _› hJ.2 hz _ ‹_› _ ‹_›))
    · refine V_exit (evs ?_)
      refine WA_seq (x := (fcd Try.f9 [1, 1, 1, 0])) (y := (fcd Try.f9 [1, 1, 1, 1])) ?_
      refine V_regionX Γ Δ [67, 72, 96, 103] [0, 1, 2, 3, 4, 7, 10, 11, 13, 14, 16, 17, 18, 19, 20, 21, 22, 23, 24, 25, 28, 29, 30, 31, 51, 90] (evs ?_)
      simp (disch := omega) only [w64]
      all_goals (try with_reducible (repeat' (first | apply And.intro | intro _)))
      all_goals (try (first | with_reducible refine wa_id ?_ | exact True.intro | exact move_fn _ ⟨_, _⟩ | omega | exact move_fn ⟨_, _, _, _⟩ ⟨_, _⟩ | (rw [MQ_len hI.1]; have := getB h2 j; omega) | (rw [MV_len hJ.1]; omega) | exact MQ_len hI.1 | exact MV_len hJ.1))
      refine WA_seq (x := (fcd Try.f9 [1, 1, 1, 1, 0])) (y := (fcd Try.f9 [1, 1, 1, 1, 1])) ?_
      refine WA_seq (x := (fcd Try.f9 [1, 1, 1, 1, 0, 0])) (y := (fcd Try.f9 [1, 1, 1, 1, 0, 1])) ?_
      refine V_draw Γ [67, 72, 96, 103] [0, 1, 2, 3, 4, 7, 10, 11, 13, 14, 16, 17, 18, 19, 20, 21, 22, 23, 24, 25, 28, 29, 30, 31, 51, 90] mixed (by kernel_rfl) (evs ?_)
      all_goals (try with_reducible (repeat' (first | apply And.intro | intro _)))
      all_goals (try (first | with_reducible refine wa_id ?_ | exact True.intro | exact area_fn _ | exact empty_fn _ | omega | exact move_fn ⟨_, _, _, _⟩ ⟨_, _⟩ | (rw [MQ_len hI.1]; have := getB h2 j; omega) | (rw [MV_len hJ.1]; omega) | exact MQ_len hI.1 | exact MV_len hJ.1))
      refine V_cond (evs ?_)
      refine ⟨fun hc => ?_, fun hc => ?_⟩
      · refine WA_seq (x := (fcd Try.f9 [1, 1, 1, 1, 0, 1, 0, 0])) (y := (fcd Try.f9 [1, 1, 1, 1, 0, 1, 0, 1])) ?_
        refine V_regionX Γ Δ [67, 72, 96, 103] [0, 1, 2, 3, 4, 7, 10, 11, 13, 14, 16, 17, 18, 19, 20, 21, 22, 23, 24, 25, 28, 29, 30, 31, 51, 90] (evs ?_)
        all_goals (try with_reducible (repeat' (first | apply And.intro | intro _)))
        all_goals (try (first | with_reducible refine wa_id ?_ | exact True.intro | exact awake_fn | omega | exact move_fn ⟨_, _, _, _⟩ ⟨_, _⟩ | (rw [MQ_len hI.1]; have := getB h2 j; omega) | (rw [MV_len hJ.1]; omega) | exact MQ_len hI.1 | exact MV_len hJ.1))
        refine V_ret (evs ?_)
        first | exact True.intro | exact mvfin mm
      · refine WA_skip ?_
        refine WA_seq (x := (fcd Try.f9 [1, 1, 1, 1, 1, 0])) (y := (fcd Try.f9 [1, 1, 1, 1, 1, 1])) ?_
        refine V_regionX Γ Δ [67, 72, 96, 103] [0, 1, 2, 3, 4, 7, 10, 11, 13, 14, 16, 17, 18, 19, 20, 21, 22, 23, 24, 25, 28, 29, 30, 31, 51, 90] (evs ?_)
        have hn := hc
        have mm := mv_mask (rule := rule) hx hy (by have := hJ.2; rw [List.take_of_length_le (by omega)] at this; exact this) hn.2 hn.1
        all_goals (try with_reducible (repeat' (first | apply And.intro | intro _)))
        all_goals (try (first | with_reducible refine wa_id ?_ | exact True.intro | exact cmask_fn _ _ ⟨_, _, _, _⟩ | omega | exact move_fn ⟨_, _, _, _⟩ ⟨_, _⟩ | (rw [MQ_len hI.1]; have := getB h2 j; omega) | (rw [MV_len hJ.1]; omega) | exact MQ_len hI.1 | exact MV_len hJ.1))
        refine WA_seq (x := (fcd Try.f9 [1, 1, 1, 1, 1, 1, 0])) (y := (fcd Try.f9 [1, 1, 1, 1, 1, 1, 1])) ?_
        refine V_regionX Γ Δ [67, 72, 96, 103] [0, 1, 2, 3, 4, 7, 10, 11, 13, 14, 16, 17, 18, 19, 20, 21, 22, 23, 24, 25, 28, 29, 30, 31, 51, 90] (evs ?_)
        simp only [MV_all ‹(ps.length : Int) ≤ _›]
        all_goals (try with_reducible (repeat' (first | apply And.intro | intro _)))
        all_goals (try (first | with_reducible refine wa_id ?_ | exact True.intro | exact cmask_fn _ _ ⟨_, _, _, _⟩ | omega | exact move_fn ⟨_, _, _, _⟩ ⟨_, _⟩ | (rw [MQ_len hI.1]; have := getB h2 j; omega) | (rw [MV_len hJ.1]; omega) | exact MQ_len hI.1 | exact MV_len hJ.1))
        refine WA_seq (x := (fcd Try.f9 [1, 1, 1, 1, 1, 1, 1, 0])) (y := (fcd Try.f9 [1, 1, 1, 1, 1, 1, 1, 1])) ?_
        refine V_regionX Γ Δ [67, 72, 96, 103] [0, 1, 2, 3, 4, 7, 10, 11, 13, 14, 16, 17, 18, 19, 20, 21, 22, 23, 24, 25, 28, 29, 30, 31, 51, 90] (evs ?_)
        all_goals (try with_reducible (repeat' (first | apply And.intro | intro _)))
        all_goals (try (first | with_reducible refine wa_id ?_ | exact True.intro | exact awake_fn | exact sameM_fn ⟨_, _, _⟩ ⟨_, _, _⟩ | omega | exact move_fn ⟨_, _, _, _⟩ ⟨_, _⟩ | (rw [MQ_len hI.1]; have := getB h2 j; omega) | (rw [MV_len hJ.1]; omega) | exact MQ_len hI.1 | exact MV_len hJ.1))
        refine V_ret (evs ?_)
        first | exact True.intro | exact mvfin mm

end Go.S20

