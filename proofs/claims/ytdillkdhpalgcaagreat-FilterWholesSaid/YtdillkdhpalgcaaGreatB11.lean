import Derived.Test.YtdillkdhpalgcaaGreatD8
import Derived.Test.YtdillkdhpalgcaaGreatB2
import Derived.Test.YtdillkdhpalgcaaGreatB3
set_option linter.unusedSimpArgs false
set_option linter.unusedVariables false
set_option linter.unusedSimpArgs false
set_option linter.unusedVariables false
namespace Go.S16
open Go.RowKit Go.Proofs Go.Eng Go.Rect
set_option maxHeartbeats 8000000 in
set_option maxRecDepth 100000 in
theorem apply_n (i : Im) (o : Pt) (bd : Rc) (k : Int) (ps : List Int) (out : Rc) (hk0 : fchkE k ps = 0 → (k = 5 ∨ k = 6 ∨ k = 9 ∨ k = 10)) : Eng.Fn Tryz.prog 5 [imD i, ptD o, rcD bd, .i k, .sl 1 (ps.map iC), rcD out] (.tup [.agg [.dat (.i (appR i o bd k ps out).w), .dat (.i (appR i o bd k ps out).h), .own 49 4 ((appR i o bd k ps out).p.map pxC)], .dat (.i (appE i o bd k ps out))]) := by
  refine Eng.Fn.by (fn := Tryz.f5) 99 [.cell 12 24, .tmp 13] Tryz.func5 rfl Tryz.ntmps5 rfl (by simp) fun w0 G0 => ?_
  refine WA_seq (x := (fcd Tryz.f5 [0])) (y := (fcd Tryz.f5 [1])) ?_
  refine V_regionX Γ Δ [] [0, 1, 2, 3, 4, 5, 6, 7, 8, 11, 12, 13, 14, 15, 16, 17, 18, 19, 20, 21, 25, 37, 44, 64, 65, 66, 69, 70, 71, 85] (evs ?_)
  all_goals (try with_reducible (repeat' (first | apply And.intro | intro _)))
  all_goals (try (first | with_reducible refine wa_id ?_ | exact True.intro | omega | (rw [nd_R hn]; exact shows_fn ⟨_, _, _⟩ ⟨_, _⟩ _ hi (meet_bd _ _)) | exact newView_n _ _ _ _ _ hk | exact filtered_n ⟨i, o, bd, k, ps, 0⟩ _ _ _ _ _ _ sq))
  refine WA_seq (x := (fcd Tryz.f5 [1, 0])) (y := (fcd Tryz.f5 [1, 1])) ?_
  refine WA_seq (x := (fcd Tryz.f5 [1, 0, 0])) (y := (fcd Tryz.f5 [1, 0, 1])) ?_
  refine V_regionX Γ Δ [] [0, 1, 2, 3, 4, 5, 6, 7, 8, 11, 12, 13, 14, 15, 16, 17, 18, 19, 20, 21, 25, 37, 44, 64, 65, 66, 69, 70, 71, 85] (evs ?_)
  all_goals (try with_reducible (repeat' (first | apply And.intro | intro _)))
  all_goals (try (first | with_reducible refine wa_id ?_ | exact True.intro | exact icheck_fn ⟨_, _, _⟩ | omega | (rw [nd_R hn]; exact shows_fn ⟨_, _, _⟩ ⟨_, _⟩ _ hi (meet_bd _ _)) | exact newView_n _ _ _ _ _ hk | exact filtered_n ⟨i, o, bd, k, ps, 0⟩ _ _ _ _ _ _ sq))
  refine WA_seq (x := (fcd Tryz.f5 [1, 0, 1, 0])) (y := (fcd Tryz.f5 [1, 0, 1, 1])) ?_
  refine V_regionX Γ Δ [] [0, 1, 2, 3, 4, 5, 6, 7, 8, 11, 12, 13, 14, 15, 16, 17, 18, 19, 20, 21, 25, 37, 44, 64, 65, 66, 69, 70, 71, 85] (evs ?_)
  all_goals (try with_reducible (repeat' (first | apply And.intro | intro _)))
  all_goals (try (first | with_reducible refine wa_id ?_ | exact True.intro | omega | (rw [nd_R hn]; exact shows_fn ⟨_, _, _⟩ ⟨_, _⟩ _ hi (meet_bd _ _)) | exact newView_n _ _ _ _ _ hk | exact filtered_n ⟨i, o, bd, k, ps, 0⟩ _ _ _ _ _ _ sq))
  refine V_cond (evs ?_)
  refine ⟨fun hc => ?_, fun hc => ?_⟩
  · refine WA_seq (x := (fcd Tryz.f5 [1, 0, 1, 1, 0, 0])) (y := (fcd Tryz.f5 [1, 0, 1, 1, 0, 1])) ?_
    refine V_regionX Γ Δ [] [0, 1, 2, 3, 4, 5, 6, 7, 8, 11, 12, 13, 14, 15, 16, 17, 18, 19, 20, 21, 25, 37, 44, 64, 65, 66, 69, 70, 71, 85] (evs ?_)
    all_goals (try with_reducible (repeat' (first | apply And.intro | intro _)))
    all_goals (try (first | with_reducible refine wa_id ?_ | exact True.intro | omega | (rw [nd_R hn]; exact shows_fn ⟨_, _, _⟩ ⟨_, _⟩ _ hi (meet_bd _ _)) | exact newView_n _ _ _ _ _ hk | exact filtered_n ⟨i, o, bd, k, ps, 0⟩ _ _ _ _ _ _ sq))
    refine V_ret (evs ?_)
    first | exact ik0 _ (ap1 hc) | exact ik0 _ (ap2 ‹_› hc) | exact ik0 _ (ap3 ‹_› ‹_› hc) | (rw [fallP hY hc]; exact ik _ (ap4 hi hn ‹_›))
  · refine WA_skip ?_
    refine WA_seq (x := (fcd Tryz.f5 [1, 1, 0])) (y := (fcd Tryz.f5 [1, 1, 1])) ?_
    refine V_regionX Γ Δ [] [0, 1, 2, 3, 4, 5, 6, 7, 8, 11, 12, 13, 14, 15, 16, 17, 18, 19, 20, 21, 25, 37, 44, 64, 65, 66, 69, 70, 71, 85] (evs ?_)
    all_goals (try with_reducible (repeat' (first | apply And.intro | intro _)))
    all_goals (try (first | with_reducible refine wa_id ?_ | exact True.intro | exact fneed_fn _ _ ⟨_, _, _, _⟩ ⟨_, _, _, _⟩ | omega | (rw [nd_R hn]; exact shows_fn ⟨_, _, _⟩ ⟨_, _⟩ _ hi (meet_bd _ _)) | exact newView_n _ _ _ _ _ hk | exact filtered_n ⟨i, o, bd, k, ps, 0⟩ _ _ _ _ _ _ sq))
    refine WA_seq (x := (fcd Tryz.f5 [1, 1, 1, 0])) (y := (fcd Tryz.f5 [1, 1, 1, 1])) ?_
    refine WA_seq (x := (fcd Tryz.f5 [1, 1, 1, 0, 0])) (y := (fcd Tryz.f5 [1, 1, 1, 0, 1])) ?_
    refine V_regionX Γ Δ [] [0, 1, 2, 3, 4, 5, 6, 7, 8, 11, 12, 13, 14, 15, 16, 17, 18, 19, 20, 21, 25, 37, 44, 64, 65, 66, 69, 70, 71, 85] (evs ?_)
    have hi := ‹ichkE i = 0›
    all_goals (try with_reducible (repeat' (first | apply And.intro | intro _)))
    all_goals (try (first | with_reducible refine wa_id ?_ | exact True.intro | omega | (rw [nd_R hn]; exact shows_fn ⟨_, _, _⟩ ⟨_, _⟩ _ hi (meet_bd _ _)) | exact newView_n _ _ _ _ _ hk | exact filtered_n ⟨i, o, bd, k, ps, 0⟩ _ _ _ _ _ _ sq))
    refine V_cond (evs ?_)
    refine ⟨fun hc => ?_, fun hc => ?_⟩
    · refine WA_seq (x := (fcd Tryz.f5 [1, 1, 1, 0, 1, 0, 0])) (y := (fcd Tryz.f5 [1, 1, 1, 0, 1, 0, 1])) ?_
      refine V_regionX Γ Δ [] [0, 1, 2, 3, 4, 5, 6, 7, 8, 11, 12, 13, 14, 15, 16, 17, 18, 19, 20, 21, 25, 37, 44, 64, 65, 66, 69, 70, 71, 85] (evs ?_)
      all_goals (try with_reducible (repeat' (first | apply And.intro | intro _)))
      all_goals (try (first | with_reducible refine wa_id ?_ | exact True.intro | omega | (rw [nd_R hn]; exact shows_fn ⟨_, _, _⟩ ⟨_, _⟩ _ hi (meet_bd _ _)) | exact newView_n _ _ _ _ _ hk | exact filtered_n ⟨i, o, bd, k, ps, 0⟩ _ _ _ _ _ _ sq))
      refine V_ret (evs ?_)
      first | exact ik0 _ (ap1 hc) | exact ik0 _ (ap2 ‹_› hc) | exact ik0 _ (ap3 ‹_› ‹_› hc) | (rw [fallP hY hc]; exact ik _ (ap4 hi hn ‹_›))
    · refine WA_skip ?_
      refine WA_seq (x := (fcd Tryz.f5 [1, 1, 1, 1, 0])) (y := (fcd Tryz.f5 [1, 1, 1, 1, 1])) ?_
      refine WA_seq (x := (fcd Tryz.f5 [1, 1, 1, 1, 0, 0])) (y := (fcd Tryz.f5 [1, 1, 1, 1, 0, 1])) ?_
      refine V_regionX Γ Δ [] [0, 1, 2, 3, 4, 5, 6, 7, 8, 11, 12, 13, 14, 15, 16, 17, 18, 19, 20, 21, 25, 37, 44, 64, 65, 66, 69, 70, 71, 85] (evs ?_)
      have hn := ‹needE k ps out bd = 0›
      all_goals (try with_reducible (repeat' (first | apply And.intro | intro _)))
      all_goals (try (first | with_reducible refine wa_id ?_ | exact True.intro | exact shows_fn ⟨_, _, _⟩ ⟨_, _⟩ ⟨_, _, _, _⟩ ‹_› (meet_bd _ _) | omega | (rw [nd_R hn]; exact shows_fn ⟨_, _, _⟩ ⟨_, _⟩ _ hi (meet_bd _ _)) | exact newView_n _ _ _ _ _ hk | exact filtered_n ⟨i, o, bd, k, ps, 0⟩ _ _ _ _ _ _ sq))
      refine V_cond (evs ?_)
      refine ⟨fun hc => ?_, fun hc => ?_⟩
      · refine WA_seq (x := (fcd Tryz.f5 [1, 1, 1, 1, 0, 1, 0, 0])) (y := (fcd Tryz.f5 [1, 1, 1, 1, 0, 1, 0, 1])) ?_
        refine V_regionX Γ Δ [] [0, 1, 2, 3, 4, 5, 6, 7, 8, 11, 12, 13, 14, 15, 16, 17, 18, 19, 20, 21, 25, 37, 44, 64, 65, 66, 69, 70, 71, 85] (evs ?_)
        all_goals (try with_reducible (repeat' (first | apply And.intro | intro _)))
        all_goals (try (first | with_reducible refine wa_id ?_ | exact True.intro | omega | (rw [nd_R hn]; exact shows_fn ⟨_, _, _⟩ ⟨_, _⟩ _ hi (meet_bd _ _)) | exact newView_n _ _ _ _ _ hk | exact filtered_n ⟨i, o, bd, k, ps, 0⟩ _ _ _ _ _ _ sq))
        refine V_ret (evs ?_)
        first | exact ik0 _ (ap1 hc) | exact ik0 _ (ap2 ‹_› hc) | exact ik0 _ (ap3 ‹_› ‹_› hc) | (rw [fallP hY hc]; exact ik _ (ap4 hi hn ‹_›))
      · refine WA_skip ?_
        refine WA_seq (x := (fcd Tryz.f5 [1, 1, 1, 1, 1, 0])) (y := (fcd Tryz.f5 [1, 1, 1, 1, 1, 1])) ?_
        refine V_regionX Γ Δ [] [0, 1, 2, 3, 4, 5, 6, 7, 8, 11, 12, 13, 14, 15, 16, 17, 18, 19, 20, 21, 25, 37, 44, 64, 65, 66, 69, 70, 71, 85] (evs ?_)
        have hn := ‹needE k ps out bd = 0›
        have hk := hk0 (nd_0 hn).1
        have hs := shw ‹showB i o (needR k ps out bd) = true›
        have hf := (nd_0 hn).1
        have hr := reach_n hf hk
        have hz := ap_z hi hn hs hr
        have hnb := nn_bd hz
        have he := empty_spec.1 (nd_0 hn).2.1
        have hz2 := hz
        unfold Z0 at hz2
        all_goals (try with_reducible (repeat' (first | apply And.intro | intro _)))
        all_goals (try (first | with_reducible refine wa_id ?_ | exact True.intro | exact newView_fn ⟨_, _, _⟩ ⟨_, _⟩ ⟨_, _, _, _⟩ _ _ (by assumption) (by assumption) | omega | (rw [nd_R hn]; exact shows_fn ⟨_, _, _⟩ ⟨_, _⟩ _ hi (meet_bd _ _)) | exact newView_n _ _ _ _ _ hk | exact filtered_n ⟨i, o, bd, k, ps, 0⟩ _ _ _ _ _ _ sq))
        simp only [radK0 hk, wtD0 hk]
        refine WA_seq (x := (fcd Tryz.f5 [1, 1, 1, 1, 1, 1, 0])) (y := (fcd Tryz.f5 [1, 1, 1, 1, 1, 1, 1])) ?_
        refine V_draw Γ [] [0, 1, 2, 3, 4, 5, 6, 7, 8, 11, 12, 13, 14, 15, 16, 17, 18, 19, 20, 21, 25, 37, 44, 64, 65, 66, 69, 70, 71, 85] mixed (by kernel_rfl) (evs ?_)
        simp only [wN hz, Int.toNat_natCast]
        all_goals (try with_reducible (repeat' (first | apply And.intro | intro _)))
        all_goals (try (first | with_reducible refine wa_id ?_ | exact True.intro | omega | (rw [nd_R hn]; exact shows_fn ⟨_, _, _⟩ ⟨_, _⟩ _ hi (meet_bd _ _)) | exact newView_n _ _ _ _ _ hk | exact filtered_n ⟨i, o, bd, k, ps, 0⟩ _ _ _ _ _ _ sq))
        refine WA_seq (x := (fcd Tryz.f5 [1, 1, 1, 1, 1, 1, 1, 0])) (y := (fcd Tryz.f5 [1, 1, 1, 1, 1, 1, 1, 1])) ?_
        refine WA_seq (x := (fcd Tryz.f5 [1, 1, 1, 1, 1, 1, 1, 0, 0])) (y := (fcd Tryz.f5 [1, 1, 1, 1, 1, 1, 1, 0, 1])) ?_
        refine V_regionX Γ Δ [] [0, 1, 2, 3, 4, 5, 6, 7, 8, 11, 12, 13, 14, 15, 16, 17, 18, 19, 20, 21, 25, 37, 44, 64, 65, 66, 69, 70, 71, 85] (evs ?_)
        all_goals (try with_reducible (repeat' (first | apply And.intro | intro _)))
        all_goals (try (first | with_reducible refine wa_id ?_ | exact True.intro | omega | (rw [nd_R hn]; exact shows_fn ⟨_, _, _⟩ ⟨_, _⟩ _ hi (meet_bd _ _)) | exact newView_n _ _ _ _ _ hk | exact filtered_n ⟨i, o, bd, k, ps, 0⟩ _ _ _ _ _ _ sq))
        refine WA_block (c := (fcd Tryz.f5 [1, 1, 1, 1, 1, 1, 1, 0, 1, 0])) ?_
        refine V_loop (c := (fcd Tryz.f5 [1, 1, 1, 1, 1, 1, 1, 0, 1, 0, 0])) (α := Nat) [19, 20, 21, 65, 66, 69, 70, 71, 85] [21, 61, 18200, 18201, 18202, 18203] (fun y => [(65, .dat (.i (y : Int)))]) (fun y => [(61, some (true, .arr 49 4 ((filP (nn out.w out.h) (gP out.w.toNat (appF (vwOf i o bd k ps) (wtL k (ps.getD 0 0)) out)) (fun _ => zP) (y * out.w.toNat)).map pxC)))]) (fun y => y ≤ out.h.toNat) (fun y => out.h.toNat - y) 0 [] ?_ (evs ?_) ?_
        · exact Nat.zero_le _
        · (try with_reducible (repeat' (first | apply And.intro | intro _)))
          all_goals (first | exact True.intro | omega | (first | exact repZ _ _ | rfl))
        · intro y hY
          refine WA_seq (x := (fcd Tryz.f5 [1, 1, 1, 1, 1, 1, 1, 0, 1, 0, 0, 0])) (y := (fcd Tryz.f5 [1, 1, 1, 1, 1, 1, 1, 0, 1, 0, 0, 1])) ?_
          refine V_regionX Γ Δ [] [0, 1, 2, 3, 4, 5, 6, 7, 8, 11, 12, 13, 14, 15, 16, 17, 18, 19, 20, 21, 25, 37, 44, 64, 65, 66, 69, 70, 71, 85] (evs ?_)
          all_goals (try with_reducible (repeat' (first | apply And.intro | intro _)))
          all_goals (try (first | with_reducible refine wa_id ?_ | exact True.intro | omega | (rw [nd_R hn]; exact shows_fn ⟨_, _, _⟩ ⟨_, _⟩ _ hi (meet_bd _ _)) | exact newView_n _ _ _ _ _ hk | exact filtered_n ⟨i, o, bd, k, ps, 0⟩ _ _ _ _ _ _ sq))
          refine WA_seq (x := (fcd Tryz.f5 [1, 1, 1, 1, 1, 1, 1, 0, 1, 0, 0, 1, 0])) (y := (fcd Tryz.f5 [1, 1, 1, 1, 1, 1, 1, 0, 1, 0, 0, 1, 1])) ?_
          refine V_cond (evs ?_)
          refine ⟨fun hc => ?_, fun hc => ?_⟩
          · refine WA_skip ?_
            refine WA_seq (x := (fcd Tryz.f5 [1, 1, 1, 1, 1, 1, 1, 0, 1, 0, 0, 1, 1, 0])) (y := (fcd Tryz.f5 [1, 1, 1, 1, 1, 1, 1, 0, 1, 0, 0, 1, 1, 1])) ?_
            refine WA_block (c := (fcd Tryz.f5 [1, 1, 1, 1, 1, 1, 1, 0, 1, 0, 0, 1, 1, 0, 0])) ?_
            refine WA_seq (x := (fcd Tryz.f5 [1, 1, 1, 1, 1, 1, 1, 0, 1, 0, 0, 1, 1, 0, 0, 0])) (y := (fcd Tryz.f5 [1, 1, 1, 1, 1, 1, 1, 0, 1, 0, 0, 1, 1, 0, 0, 1])) ?_
            refine V_regionX Γ Δ [] [0, 1, 2, 3, 4, 5, 6, 7, 8, 11, 12, 13, 14, 15, 16, 17, 18, 19, 20, 21, 25, 37, 44, 64, 65, 66, 69, 70, 71, 85] (evs ?_)
            all_goals (try with_reducible (repeat' (first | apply And.intro | intro _)))
            all_goals (try (first | with_reducible refine wa_id ?_ | exact True.intro | omega | (rw [nd_R hn]; exact shows_fn ⟨_, _, _⟩ ⟨_, _⟩ _ hi (meet_bd _ _)) | exact newView_n _ _ _ _ _ hk | exact filtered_n ⟨i, o, bd, k, ps, 0⟩ _ _ _ _ _ _ sq))
            refine WA_seq (x := (fcd Tryz.f5 [1, 1, 1, 1, 1, 1, 1, 0, 1, 0, 0, 1, 1, 0, 0, 1, 0])) (y := (fcd Tryz.f5 [1, 1, 1, 1, 1, 1, 1, 0, 1, 0, 0, 1, 1, 0, 0, 1, 1])) ?_
            refine V_regionX Γ Δ [] [0, 1, 2, 3, 4, 5, 6, 7, 8, 11, 12, 13, 14, 15, 16, 17, 18, 19, 20, 21, 25, 37, 44, 64, 65, 66, 69, 70, 71, 85] (evs ?_)
            all_goals (try with_reducible (repeat' (first | apply And.intro | intro _)))
            all_goals (try (first | with_reducible refine wa_id ?_ | exact True.intro | omega | (rw [nd_R hn]; exact shows_fn ⟨_, _, _⟩ ⟨_, _⟩ _ hi (meet_bd _ _)) | exact newView_n _ _ _ _ _ hk | exact filtered_n ⟨i, o, bd, k, ps, 0⟩ _ _ _ _ _ _ sq))
            refine WA_block (c := (fcd Tryz.f5 [1, 1, 1, 1, 1, 1, 1, 0, 1, 0, 0, 1, 1, 0, 0, 1, 1, 0])) ?_
            refine V_loop (c := (fcd Tryz.f5 [1, 1, 1, 1, 1, 1, 1, 0, 1, 0, 0, 1, 1, 0, 0, 1, 1, 0, 0])) (α := Nat) [20, 21, 70, 71, 85] [21, 61, 18200, 18201, 18202, 18203] (fun x => [(70, .dat (.i (x : Int)))]) (fun x => [(61, some (true, .arr 49 4 ((filP (nn out.w out.h) (gP out.w.toNat (appF (vwOf i o bd k ps) (wtL k (ps.getD 0 0)) out)) (fun _ => zP) (y * out.w.toNat + x)).map pxC)))]) (fun x => x ≤ out.w.toNat) (fun x => out.w.toNat - x) 0 [] ?_ (evs ?_) ?_
            · exact Nat.zero_le _
            · (try with_reducible (repeat' (first | apply And.intro | intro _)))
              all_goals (first | exact True.intro | omega | (first | rfl))
            · intro x hX
              refine WA_seq (x := (fcd Tryz.f5 [1, 1, 1, 1, 1, 1, 1, 0, 1, 0, 0, 1, 1, 0, 0, 1, 1, 0, 0, 0])) (y := (fcd Tryz.f5 [1, 1, 1, 1, 1, 1, 1, 0, 1, 0, 0, 1, 1, 0, 0, 1, 1, 0, 0, 1])) ?_
              refine V_regionX Γ Δ [] [0, 1, 2, 3, 4, 5, 6, 7, 8, 11, 12, 13, 14, 15, 16, 17, 18, 19, 20, 21, 25, 37, 44, 64, 65, 66, 69, 70, 71, 85] (evs ?_)
              all_goals (try with_reducible (repeat' (first | apply And.intro | intro _)))
              all_goals (try (first | with_reducible refine wa_id ?_ | exact True.intro | omega | (rw [nd_R hn]; exact shows_fn ⟨_, _, _⟩ ⟨_, _⟩ _ hi (meet_bd _ _)) | exact newView_n _ _ _ _ _ hk | exact filtered_n ⟨i, o, bd, k, ps, 0⟩ _ _ _ _ _ _ sq))
              refine WA_seq (x := (fcd Tryz.f5 [1, 1, 1, 1, 1, 1, 1, 0, 1, 0, 0, 1, 1, 0, 0, 1, 1, 0, 0, 1, 0])) (y := (fcd Tryz.f5 [1, 1, 1, 1, 1, 1, 1, 0, 1, 0, 0, 1, 1, 0, 0, 1, 1, 0, 0, 1, 1])) ?_
              refine V_cond (evs ?_)
              refine ⟨fun hc => ?_, fun hc => ?_⟩
              · refine WA_skip ?_
                refine WA_seq (x := (fcd Tryz.f5 [1, 1, 1, 1, 1, 1, 1, 0, 1, 0, 0, 1, 1, 0, 0, 1, 1, 0, 0, 1, 1, 0])) (y := (fcd Tryz.f5 [1, 1, 1, 1, 1, 1, 1, 0, 1, 0, 0, 1, 1, 0, 0, 1, 1, 0, 0, 1, 1, 1])) ?_
                refine WA_block (c := (fcd Tryz.f5 [1, 1, 1, 1, 1, 1, 1, 0, 1, 0, 0, 1, 1, 0, 0, 1, 1, 0, 0, 1, 1, 0, 0])) ?_
                refine WA_seq (x := (fcd Tryz.f5 [1, 1, 1, 1, 1, 1, 1, 0, 1, 0, 0, 1, 1, 0, 0, 1, 1, 0, 0, 1, 1, 0, 0, 0])) (y := (fcd Tryz.f5 [1, 1, 1, 1, 1, 1, 1, 0, 1, 0, 0, 1, 1, 0, 0, 1, 1, 0, 0, 1, 1, 0, 0, 1])) ?_
                refine V_regionX Γ Δ [] [0, 1, 2, 3, 4, 5, 6, 7, 8, 11, 12, 13, 14, 15, 16, 17, 18, 19, 20, 21, 25, 37, 44, 64, 65, 66, 69, 70, 71, 85] (evs ?_)
                all_goals (try with_reducible (repeat' (first | apply And.intro | intro _)))
                all_goals (try (first | with_reducible refine wa_id ?_ | exact True.intro | omega | (rw [nd_R hn]; exact shows_fn ⟨_, _, _⟩ ⟨_, _⟩ _ hi (meet_bd _ _)) | exact newView_n _ _ _ _ _ hk | exact filtered_n ⟨i, o, bd, k, ps, 0⟩ _ _ _ _ _ _ sq))
                refine WA_seq (x := (fcd Tryz.f5 [1, 1, 1, 1, 1, 1, 1, 0, 1, 0, 0, 1, 1, 0, 0, 1, 1, 0, 0, 1, 1, 0, 0, 1, 0])) (y := (fcd Tryz.f5 [1, 1, 1, 1, 1, 1, 1, 0, 1, 0, 0, 1, 1, 0, 0, 1, 1, 0, 0, 1, 1, 0, 0, 1, 1])) ?_
                refine V_regionX Γ Δ [] [0, 1, 2, 3, 4, 5, 6, 7, 8, 11, 12, 13, 14, 15, 16, 17, 18, 19, 20, 21, 25, 37, 44, 64, 65, 66, 69, 70, 71, 85] (evs ?_)
                (try simp (maxSteps := 10000000) (disch := omega) only [w64])
                have hx := ‹(x : Int) < out.w›
                have hy := ‹(y : Int) < out.h›
                have sq := ap_n hk hi hn hs hx hy
                all_goals (try with_reducible (repeat' (first | apply And.intro | intro _)))
                all_goals (try (first | with_reducible refine wa_id ?_ | exact True.intro | exact filtered_fn ⟨⟨_, _, _⟩, ⟨_, _⟩, ⟨_, _, _, _⟩, _, _, _⟩ _ _ _ _ _ _ _ (by assumption) (by assumption) (by assumption) | omega | (rw [nd_R hn]; exact shows_fn ⟨_, _, _⟩ ⟨_, _⟩ _ hi (meet_bd _ _)) | exact newView_n _ _ _ _ _ hk | exact filtered_n ⟨i, o, bd, k, ps, 0⟩ _ _ _ _ _ _ sq))
                refine WA_seq (x := (fcd Tryz.f5 [1, 1, 1, 1, 1, 1, 1, 0, 1, 0, 0, 1, 1, 0, 0, 1, 1, 0, 0, 1, 1, 0, 0, 1, 1, 0])) (y := (fcd Tryz.f5 [1, 1, 1, 1, 1, 1, 1, 0, 1, 0, 0, 1, 1, 0, 0, 1, 1, 0, 0, 1, 1, 0, 0, 1, 1, 1])) ?_
                refine V_regionX Γ Δ [] [0, 1, 2, 3, 4, 5, 6, 7, 8, 11, 12, 13, 14, 15, 16, 17, 18, 19, 20, 21, 25, 37, 44, 64, 65, 66, 69, 70, 71, 85] (evs ?_)
                all_goals (try with_reducible (repeat' (first | apply And.intro | intro _)))
                all_goals (try (first | with_reducible refine wa_id ?_ | exact True.intro | omega | (rw [nd_R hn]; exact shows_fn ⟨_, _, _⟩ ⟨_, _⟩ _ hi (meet_bd _ _)) | exact newView_n _ _ _ _ _ hk | exact filtered_n ⟨i, o, bd, k, ps, 0⟩ _ _ _ _ _ _ sq))
                refine V_cond (evs ?_)
                refine ⟨fun hc => ?_, fun hc => ?_⟩
                · refine V_regionX Γ Δ [] [0, 1, 2, 3, 4, 5, 6, 7, 8, 11, 12, 13, 14, 15, 16, 17, 18, 19, 20, 21, 25, 37, 44, 64, 65, 66, 69, 70, 71, 85] (evs ?_)
                  have hix := yxI hz hy hx
                  simp only [yxW hz hy hx, Int.toNat_natCast]
                  all_goals (try with_reducible (repeat' (first | apply And.intro | intro _)))
                  all_goals (try (first | with_reducible refine wa_id ?_ | exact True.intro | omega | (rw [nd_R hn]; exact shows_fn ⟨_, _, _⟩ ⟨_, _⟩ _ hi (meet_bd _ _)) | exact newView_n _ _ _ _ _ hk | exact filtered_n ⟨i, o, bd, k, ps, 0⟩ _ _ _ _ _ _ sq))
                  refine V_regionX Γ Δ [] [0, 1, 2, 3, 4, 5, 6, 7, 8, 11, 12, 13, 14, 15, 16, 17, 18, 19, 20, 21, 25, 37, 44, 64, 65, 66, 69, 70, 71, 85] (evs ?_)
                  all_goals (try with_reducible (repeat' (first | apply And.intro | intro _)))
                  all_goals (try (first | with_reducible refine wa_id ?_ | exact True.intro | omega | (rw [nd_R hn]; exact shows_fn ⟨_, _, _⟩ ⟨_, _⟩ _ hi (meet_bd _ _)) | exact newView_n _ _ _ _ _ hk | exact filtered_n ⟨i, o, bd, k, ps, 0⟩ _ _ _ _ _ _ sq))
                  refine V_next [] (x + 1) (evs ?_) ?_ ?_
                  all_goals (try with_reducible (repeat' (first | apply And.intro | intro _)))
                  all_goals (first | exact True.intro | omega | (first | exact w64l (n := 65536) (by omega) (by omega) | exact filP_setC (by rw [gP_at (by omega)]; exact (clr1 hc).trans (apn hk).symm) | exact congrArg (List.map pxC) (filP_skip (by rw [gP_at (by omega)]; exact (clr2 hc).trans (apn hk).symm))))
                · refine WA_skip ?_
                  refine V_regionX Γ Δ [] [0, 1, 2, 3, 4, 5, 6, 7, 8, 11, 12, 13, 14, 15, 16, 17, 18, 19, 20, 21, 25, 37, 44, 64, 65, 66, 69, 70, 71, 85] (evs ?_)
                  all_goals (try with_reducible (repeat' (first | apply And.intro | intro _)))
                  all_goals (try (first | with_reducible refine wa_id ?_ | exact True.intro | omega | (rw [nd_R hn]; exact shows_fn ⟨_, _, _⟩ ⟨_, _⟩ _ hi (meet_bd _ _)) | exact newView_n _ _ _ _ _ hk | exact filtered_n ⟨i, o, bd, k, ps, 0⟩ _ _ _ _ _ _ sq))
                  refine V_next [] (x + 1) (evs ?_) ?_ ?_
                  all_goals (try with_reducible (repeat' (first | apply And.intro | intro _)))
                  all_goals (first | exact True.intro | omega | (first | exact w64l (n := 65536) (by omega) (by omega) | exact filP_setC (by rw [gP_at (by omega)]; exact (clr1 hc).trans (apn hk).symm) | exact congrArg (List.map pxC) (filP_skip (by rw [gP_at (by omega)]; exact (clr2 hc).trans (apn hk).symm))))
              · refine V_exit (evs ?_)
                refine V_regionX Γ Δ [] [0, 1, 2, 3, 4, 5, 6, 7, 8, 11, 12, 13, 14, 15, 16, 17, 18, 19, 20, 21, 25, 37, 44, 64, 65, 66, 69, 70, 71, 85] (evs ?_)
                all_goals (try with_reducible (repeat' (first | apply And.intro | intro _)))
                all_goals (try (first | with_reducible refine wa_id ?_ | exact True.intro | omega | (rw [nd_R hn]; exact shows_fn ⟨_, _, _⟩ ⟨_, _⟩ _ hi (meet_bd _ _)) | exact newView_n _ _ _ _ _ hk | exact filtered_n ⟨i, o, bd, k, ps, 0⟩ _ _ _ _ _ _ sq))
                refine V_next [] (y + 1) (evs ?_) ?_ ?_
                all_goals (try with_reducible (repeat' (first | apply And.intro | intro _)))
                all_goals (first | exact True.intro | omega | (first | exact w64l (n := 65536) (by omega) (by omega) | (rw [row_e (y := y) (w := out.w.toNat) (by omega) (by omega)]; done)))
          · refine V_exit (evs ?_)
            refine WA_seq (x := (fcd Tryz.f5 [1, 1, 1, 1, 1, 1, 1, 1, 0])) (y := (fcd Tryz.f5 [1, 1, 1, 1, 1, 1, 1, 1, 1])) ?_
            refine V_regionX Γ Δ [] [0, 1, 2, 3, 4, 5, 6, 7, 8, 11, 12, 13, 14, 15, 16, 17, 18, 19, 20, 21, 25, 37, 44, 64, 65, 66, 69, 70, 71, 85] (evs ?_)
            all_goals (try with_reducible (repeat' (first | apply And.intro | intro _)))
            all_goals (try (first | with_reducible refine wa_id ?_ | exact True.intro | omega | (rw [nd_R hn]; exact shows_fn ⟨_, _, _⟩ ⟨_, _⟩ _ hi (meet_bd _ _)) | exact newView_n _ _ _ _ _ hk | exact filtered_n ⟨i, o, bd, k, ps, 0⟩ _ _ _ _ _ _ sq))
            refine V_ret (evs ?_)
            first | exact ik0 _ (ap1 hc) | exact ik0 _ (ap2 ‹_› hc) | exact ik0 _ (ap3 ‹_› ‹_› hc) | (rw [fallP hY hc]; exact ik _ (ap4 hi hn ‹_›))

end Go.S16

