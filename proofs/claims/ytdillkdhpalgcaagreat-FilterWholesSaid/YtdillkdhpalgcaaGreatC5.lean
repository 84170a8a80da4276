import Derived.Test.YtdillkdhpalgcaaGreatC4
import Derived.Test.YtdillkdhpalgcaaGreatC3
import Derived.Test.YtdillkdhpalgcaaGreatB2
import Derived.Test.YtdillkdhpalgcaaGreatB3
import Derived.Test.YtdillkdhpalgcaaGreatB4
set_option linter.unusedSimpArgs false
set_option linter.unusedVariables false
set_option linter.unusedSimpArgs false
set_option linter.unusedVariables false
namespace Go.S16
open Go.RowKit Go.Proofs Go.Eng Go.Rect
set_option maxHeartbeats 8000000 in
set_option maxRecDepth 100000 in
theorem apply_rk (i : Im) (o : Pt) (bd : Rc) (k : Int) (ps : List Int) (out : Rc) (hk : k = 4 ∨ k = 7 ∨ k = 8) : Eng.Fn Tryz.prog 5 [imD i, ptD o, rcD bd, .i k, .sl 1 (ps.map iC), rcD out] (.tup [.agg [.dat (.i (appR i o bd k ps out).w), .dat (.i (appR i o bd k ps out).h), .own 49 4 ((appR i o bd k ps out).p.map pxC)], .dat (.i (appE i o bd k ps out))]) := by
  refine Eng.Fn.by (fn := Tryz.f5) 99 [.cell 12 24, .tmp 13] Tryz.func5 rfl Tryz.ntmps5 rfl (by simp) fun w0 G0 => ?_
  refine WA_seq (x := (fcd Tryz.f5 [0])) (y := (fcd Tryz.f5 [1])) ?_
  refine V_regionZ Γ Δ Θ [] [0, 1, 2, 3, 4, 5, 6, 7, 8, 11, 12, 13, 14, 15, 16, 17, 18, 19, 20, 21, 25, 37, 44, 64, 65, 66, 69, 70, 71, 85] (evs ?_)
  all_goals (try with_reducible (repeat' (first | apply And.intro | intro _)))
  all_goals (try (first | with_reducible refine wa_id ?_ | exact True.intro | omega | (rw [nd_R hn]; exact shows_fn ⟨_, _, _⟩ ⟨_, _⟩ _ hi (meet_bd _ _)) | exact newView_z _ _ _ _ _ (by assumption) (by assumption) | exact filtered_z (vwOf i o bd k ps) nilD gx _ _ (by assumption)))
  refine WA_seq (x := (fcd Tryz.f5 [1, 0])) (y := (fcd Tryz.f5 [1, 1])) ?_
  refine WA_seq (x := (fcd Tryz.f5 [1, 0, 0])) (y := (fcd Tryz.f5 [1, 0, 1])) ?_
  refine V_regionZ Γ Δ Θ [] [0, 1, 2, 3, 4, 5, 6, 7, 8, 11, 12, 13, 14, 15, 16, 17, 18, 19, 20, 21, 25, 37, 44, 64, 65, 66, 69, 70, 71, 85] (evs ?_)
  all_goals (try with_reducible (repeat' (first | apply And.intro | intro _)))
  all_goals (try (first | with_reducible refine wa_id ?_ | exact True.intro | exact icheck_fn ⟨_, _, _⟩ | omega | (rw [nd_R hn]; exact shows_fn ⟨_, _, _⟩ ⟨_, _⟩ _ hi (meet_bd _ _)) | exact newView_z _ _ _ _ _ (by assumption) (by assumption) | exact filtered_z (vwOf i o bd k ps) nilD gx _ _ (by assumption)))
  refine WA_seq (x := (fcd Tryz.f5 [1, 0, 1, 0])) (y := (fcd Tryz.f5 [1, 0, 1, 1])) ?_
  refine V_regionZ Γ Δ Θ [] [0, 1, 2, 3, 4, 5, 6, 7, 8, 11, 12, 13, 14, 15, 16, 17, 18, 19, 20, 21, 25, 37, 44, 64, 65, 66, 69, 70, 71, 85] (evs ?_)
  all_goals (try with_reducible (repeat' (first | apply And.intro | intro _)))
  all_goals (try (first | with_reducible refine wa_id ?_ | exact True.intro | omega | (rw [nd_R hn]; exact shows_fn ⟨_, _, _⟩ ⟨_, _⟩ _ hi (meet_bd _ _)) | exact newView_z _ _ _ _ _ (by assumption) (by assumption) | exact filtered_z (vwOf i o bd k ps) nilD gx _ _ (by assumption)))
  refine V_cond (evs ?_)
  refine ⟨fun hc => ?_, fun hc => ?_⟩
  · refine WA_seq (x := (fcd Tryz.f5 [1, 0, 1, 1, 0, 0])) (y := (fcd Tryz.f5 [1, 0, 1, 1, 0, 1])) ?_
    refine V_regionZ Γ Δ Θ [] [0, 1, 2, 3, 4, 5, 6, 7, 8, 11, 12, 13, 14, 15, 16, 17, 18, 19, 20, 21, 25, 37, 44, 64, 65, 66, 69, 70, 71, 85] (evs ?_)
    all_goals (try with_reducible (repeat' (first | apply And.intro | intro _)))
    all_goals (try (first | with_reducible refine wa_id ?_ | exact True.intro | omega | (rw [nd_R hn]; exact shows_fn ⟨_, _, _⟩ ⟨_, _⟩ _ hi (meet_bd _ _)) | exact newView_z _ _ _ _ _ (by assumption) (by assumption) | exact filtered_z (vwOf i o bd k ps) nilD gx _ _ (by assumption)))
    refine V_ret (evs ?_)
    first | exact ik0 _ (ap1 hc) | exact ik0 _ (ap2 ‹_› hc) | exact ik0 _ (ap3 ‹_› ‹_› hc) | (rw [fallP hY hc]; exact ik _ (ap4 hi hn ‹_›))
  · refine WA_skip ?_
    refine WA_seq (x := (fcd Tryz.f5 [1, 1, 0])) (y := (fcd Tryz.f5 [1, 1, 1])) ?_
    refine V_regionZ Γ Δ Θ [] [0, 1, 2, 3, 4, 5, 6, 7, 8, 11, 12, 13, 14, 15, 16, 17, 18, 19, 20, 21, 25, 37, 44, 64, 65, 66, 69, 70, 71, 85] (evs ?_)
    all_goals (try with_reducible (repeat' (first | apply And.intro | intro _)))
    all_goals (try (first | with_reducible refine wa_id ?_ | exact True.intro | exact fneed_fn _ _ ⟨_, _, _, _⟩ ⟨_, _, _, _⟩ | omega | (rw [nd_R hn]; exact shows_fn ⟨_, _, _⟩ ⟨_, _⟩ _ hi (meet_bd _ _)) | exact newView_z _ _ _ _ _ (by assumption) (by assumption) | exact filtered_z (vwOf i o bd k ps) nilD gx _ _ (by assumption)))
    refine WA_seq (x := (fcd Tryz.f5 [1, 1, 1, 0])) (y := (fcd Tryz.f5 [1, 1, 1, 1])) ?_
    refine WA_seq (x := (fcd Tryz.f5 [1, 1, 1, 0, 0])) (y := (fcd Tryz.f5 [1, 1, 1, 0, 1])) ?_
    refine V_regionZ Γ Δ Θ [] [0, 1, 2, 3, 4, 5, 6, 7, 8, 11, 12, 13, 14, 15, 16, 17, 18, 19, 20, 21, 25, 37, 44, 64, 65, 66, 69, 70, 71, 85] (evs ?_)
    have hi := ‹ichkE i = 0›
    all_goals (try with_reducible (repeat' (first | apply And.intro | intro _)))
    all_goals (try (first | with_reducible refine wa_id ?_ | exact True.intro | omega | (rw [nd_R hn]; exact shows_fn ⟨_, _, _⟩ ⟨_, _⟩ _ hi (meet_bd _ _)) | exact newView_z _ _ _ _ _ (by assumption) (by assumption) | exact filtered_z (vwOf i o bd k ps) nilD gx _ _ (by assumption)))
    refine V_cond (evs ?_)
    refine ⟨fun hc => ?_, fun hc => ?_⟩
    · refine WA_seq (x := (fcd Tryz.f5 [1, 1, 1, 0, 1, 0, 0])) (y := (fcd Tryz.f5 [1, 1, 1, 0, 1, 0, 1])) ?_
      refine V_regionZ Γ Δ Θ [] [0, 1, 2, 3, 4, 5, 6, 7, 8, 11, 12, 13, 14, 15, 16, 17, 18, 19, 20, 21, 25, 37, 44, 64, 65, 66, 69, 70, 71, 85] (evs ?_)
      all_goals (try with_reducible (repeat' (first | apply And.intro | intro _)))
      all_goals (try (first | with_reducible refine wa_id ?_ | exact True.intro | omega | (rw [nd_R hn]; exact shows_fn ⟨_, _, _⟩ ⟨_, _⟩ _ hi (meet_bd _ _)) | exact newView_z _ _ _ _ _ (by assumption) (by assumption) | exact filtered_z (vwOf i o bd k ps) nilD gx _ _ (by assumption)))
      refine V_ret (evs ?_)
      first | exact ik0 _ (ap1 hc) | exact ik0 _ (ap2 ‹_› hc) | exact ik0 _ (ap3 ‹_› ‹_› hc) | (rw [fallP hY hc]; exact ik _ (ap4 hi hn ‹_›))
    · refine WA_skip ?_
      refine WA_seq (x := (fcd Tryz.f5 [1, 1, 1, 1, 0])) (y := (fcd Tryz.f5 [1, 1, 1, 1, 1])) ?_
      refine WA_seq (x := (fcd Tryz.f5 [1, 1, 1, 1, 0, 0])) (y := (fcd Tryz.f5 [1, 1, 1, 1, 0, 1])) ?_
      refine V_regionZ Γ Δ Θ [] [0, 1, 2, 3, 4, 5, 6, 7, 8, 11, 12, 13, 14, 15, 16, 17, 18, 19, 20, 21, 25, 37, 44, 64, 65, 66, 69, 70, 71, 85] (evs ?_)
      have hn := ‹needE k ps out bd = 0›
      all_goals (try with_reducible (repeat' (first | apply And.intro | intro _)))
      all_goals (try (first | with_reducible refine wa_id ?_ | exact True.intro | exact shows_fn ⟨_, _, _⟩ ⟨_, _⟩ ⟨_, _, _, _⟩ ‹_› (meet_bd _ _) | omega | (rw [nd_R hn]; exact shows_fn ⟨_, _, _⟩ ⟨_, _⟩ _ hi (meet_bd _ _)) | exact newView_z _ _ _ _ _ (by assumption) (by assumption) | exact filtered_z (vwOf i o bd k ps) nilD gx _ _ (by assumption)))
      refine V_cond (evs ?_)
      refine ⟨fun hc => ?_, fun hc => ?_⟩
      · refine WA_seq (x := (fcd Tryz.f5 [1, 1, 1, 1, 0, 1, 0, 0])) (y := (fcd Tryz.f5 [1, 1, 1, 1, 0, 1, 0, 1])) ?_
        refine V_regionZ Γ Δ Θ [] [0, 1, 2, 3, 4, 5, 6, 7, 8, 11, 12, 13, 14, 15, 16, 17, 18, 19, 20, 21, 25, 37, 44, 64, 65, 66, 69, 70, 71, 85] (evs ?_)
        all_goals (try with_reducible (repeat' (first | apply And.intro | intro _)))
        all_goals (try (first | with_reducible refine wa_id ?_ | exact True.intro | omega | (rw [nd_R hn]; exact shows_fn ⟨_, _, _⟩ ⟨_, _⟩ _ hi (meet_bd _ _)) | exact newView_z _ _ _ _ _ (by assumption) (by assumption) | exact filtered_z (vwOf i o bd k ps) nilD gx _ _ (by assumption)))
        refine V_ret (evs ?_)
        first | exact ik0 _ (ap1 hc) | exact ik0 _ (ap2 ‹_› hc) | exact ik0 _ (ap3 ‹_› ‹_› hc) | (rw [fallP hY hc]; exact ik _ (ap4 hi hn ‹_›))
      · refine WA_skip ?_
        refine WA_seq (x := (fcd Tryz.f5 [1, 1, 1, 1, 1, 0])) (y := (fcd Tryz.f5 [1, 1, 1, 1, 1, 1])) ?_
        refine V_regionZ Γ Δ Θ [] [0, 1, 2, 3, 4, 5, 6, 7, 8, 11, 12, 13, 14, 15, 16, 17, 18, 19, 20, 21, 25, 37, 44, 64, 65, 66, 69, 70, 71, 85] (evs ?_)
        have hs := shw ‹showB i o (needR k ps out bd) = true›
        have hf := (nd_0 hn).1
        have hr := reach_1 hf (by omega)
        have hz := ap_z hi hn hs (by omega)
        have hnb := nn_bd hz
        have he := empty_spec.1 (nd_0 hn).2.1
        have hz2 := hz
        unfold Z0 at hz2
        all_goals (try with_reducible (repeat' (first | apply And.intro | intro _)))
        all_goals (try (first | with_reducible refine wa_id ?_ | exact True.intro | exact newView_fn ⟨_, _, _⟩ ⟨_, _⟩ ⟨_, _, _, _⟩ _ _ (by assumption) (by assumption) | omega | (rw [nd_R hn]; exact shows_fn ⟨_, _, _⟩ ⟨_, _⟩ _ hi (meet_bd _ _)) | exact newView_z _ _ _ _ _ (by assumption) (by assumption) | exact filtered_z (vwOf i o bd k ps) nilD gx _ _ (by assumption)))
        refine WA_seq (x := (fcd Tryz.f5 [1, 1, 1, 1, 1, 1, 0])) (y := (fcd Tryz.f5 [1, 1, 1, 1, 1, 1, 1])) ?_
        refine V_draw Γ [] [0, 1, 2, 3, 4, 5, 6, 7, 8, 11, 12, 13, 14, 15, 16, 17, 18, 19, 20, 21, 25, 37, 44, 64, 65, 66, 69, 70, 71, 85] mixed (by kernel_rfl) (evs ?_)
        simp only [wN hz, Int.toNat_natCast]
        all_goals (try with_reducible (repeat' (first | apply And.intro | intro _)))
        all_goals (try (first | with_reducible refine wa_id ?_ | exact True.intro | omega | (rw [nd_R hn]; exact shows_fn ⟨_, _, _⟩ ⟨_, _⟩ _ hi (meet_bd _ _)) | exact newView_z _ _ _ _ _ (by assumption) (by assumption) | exact filtered_z (vwOf i o bd k ps) nilD gx _ _ (by assumption)))
        refine WA_seq (x := (fcd Tryz.f5 [1, 1, 1, 1, 1, 1, 1, 0])) (y := (fcd Tryz.f5 [1, 1, 1, 1, 1, 1, 1, 1])) ?_
        refine WA_seq (x := (fcd Tryz.f5 [1, 1, 1, 1, 1, 1, 1, 0, 0])) (y := (fcd Tryz.f5 [1, 1, 1, 1, 1, 1, 1, 0, 1])) ?_
        refine V_regionZ Γ Δ Θ [] [0, 1, 2, 3, 4, 5, 6, 7, 8, 11, 12, 13, 14, 15, 16, 17, 18, 19, 20, 21, 25, 37, 44, 64, 65, 66, 69, 70, 71, 85] (evs ?_)
        all_goals (try with_reducible (repeat' (first | apply And.intro | intro _)))
        all_goals (try (first | with_reducible refine wa_id ?_ | exact True.intro | omega | (rw [nd_R hn]; exact shows_fn ⟨_, _, _⟩ ⟨_, _⟩ _ hi (meet_bd _ _)) | exact newView_z _ _ _ _ _ (by assumption) (by assumption) | exact filtered_z (vwOf i o bd k ps) nilD gx _ _ (by assumption)))
        refine WA_block (c := (fcd Tryz.f5 [1, 1, 1, 1, 1, 1, 1, 0, 1, 0])) ?_
        refine V_loop (c := (fcd Tryz.f5 [1, 1, 1, 1, 1, 1, 1, 0, 1, 0, 0])) (α := Nat × Gs) [19, 20, 21, 65, 66, 69, 70, 71, 85] [21, 61, 15100, 15101, 15102, 15103, 15104, 18200, 18201, 18202, 18203] (fun p => [(65, .dat (.i (p.1 : Int)))]) (fun p => (61, some (true, .arr 49 4 ((filP (nn out.w out.h) (gP out.w.toNat (appF (vwOf i o bd k ps) (wtL k (ps.getD 0 0)) out)) (fun _ => zP) (p.1 * out.w.toNat)).map pxC))) :: rkH 3 64 15100 (vwOf i o bd k ps) nilD ⟨20000, 20001, 20002, 20003⟩ p.2) (fun p => p.1 ≤ out.h.toNat) (fun p => out.h.toNat - p.1) (0, e4) [(20000, some 15101), (20001, some 15102), (20002, some 15103), (20003, some 15104)] ?_ (evs ?_) ?_
        · exact Nat.zero_le _
        · (try with_reducible (repeat' (first | apply And.intro | intro _)))
          all_goals (first | exact True.intro | omega | (first | exact repZ _ _ | rfl))
        · rintro ⟨y, gy⟩ hY
          refine WA_seq (x := (fcd Tryz.f5 [1, 1, 1, 1, 1, 1, 1, 0, 1, 0, 0, 0])) (y := (fcd Tryz.f5 [1, 1, 1, 1, 1, 1, 1, 0, 1, 0, 0, 1])) ?_
          refine V_regionZ Γ Δ Θ [] [0, 1, 2, 3, 4, 5, 6, 7, 8, 11, 12, 13, 14, 15, 16, 17, 18, 19, 20, 21, 25, 37, 44, 64, 65, 66, 69, 70, 71, 85] (evs ?_)
          all_goals (try with_reducible (repeat' (first | apply And.intro | intro _)))
          all_goals (try (first | with_reducible refine wa_id ?_ | exact True.intro | omega | (rw [nd_R hn]; exact shows_fn ⟨_, _, _⟩ ⟨_, _⟩ _ hi (meet_bd _ _)) | exact newView_z _ _ _ _ _ (by assumption) (by assumption) | exact filtered_z (vwOf i o bd k ps) nilD gx _ _ (by assumption)))
          refine WA_seq (x := (fcd Tryz.f5 [1, 1, 1, 1, 1, 1, 1, 0, 1, 0, 0, 1, 0])) (y := (fcd Tryz.f5 [1, 1, 1, 1, 1, 1, 1, 0, 1, 0, 0, 1, 1])) ?_
          refine V_cond (evs ?_)
          refine ⟨fun hc => ?_, fun hc => ?_⟩
          · refine WA_skip ?_
            refine WA_seq (x := (fcd Tryz.f5 [1, 1, 1, 1, 1, 1, 1, 0, 1, 0, 0, 1, 1, 0])) (y := (fcd Tryz.f5 [1, 1, 1, 1, 1, 1, 1, 0, 1, 0, 0, 1, 1, 1])) ?_
            refine WA_block (c := (fcd Tryz.f5 [1, 1, 1, 1, 1, 1, 1, 0, 1, 0, 0, 1, 1, 0, 0])) ?_
            refine WA_seq (x := (fcd Tryz.f5 [1, 1, 1, 1, 1, 1, 1, 0, 1, 0, 0, 1, 1, 0, 0, 0])) (y := (fcd Tryz.f5 [1, 1, 1, 1, 1, 1, 1, 0, 1, 0, 0, 1, 1, 0, 0, 1])) ?_
            refine V_regionZ Γ Δ Θ [] [0, 1, 2, 3, 4, 5, 6, 7, 8, 11, 12, 13, 14, 15, 16, 17, 18, 19, 20, 21, 25, 37, 44, 64, 65, 66, 69, 70, 71, 85] (evs ?_)
            all_goals (try with_reducible (repeat' (first | apply And.intro | intro _)))
            all_goals (try (first | with_reducible refine wa_id ?_ | exact True.intro | omega | (rw [nd_R hn]; exact shows_fn ⟨_, _, _⟩ ⟨_, _⟩ _ hi (meet_bd _ _)) | exact newView_z _ _ _ _ _ (by assumption) (by assumption) | exact filtered_z (vwOf i o bd k ps) nilD gx _ _ (by assumption)))
            refine WA_seq (x := (fcd Tryz.f5 [1, 1, 1, 1, 1, 1, 1, 0, 1, 0, 0, 1, 1, 0, 0, 1, 0])) (y := (fcd Tryz.f5 [1, 1, 1, 1, 1, 1, 1, 0, 1, 0, 0, 1, 1, 0, 0, 1, 1])) ?_
            refine V_regionZ Γ Δ Θ [] [0, 1, 2, 3, 4, 5, 6, 7, 8, 11, 12, 13, 14, 15, 16, 17, 18, 19, 20, 21, 25, 37, 44, 64, 65, 66, 69, 70, 71, 85] (evs ?_)
            all_goals (try with_reducible (repeat' (first | apply And.intro | intro _)))
            all_goals (try (first | with_reducible refine wa_id ?_ | exact True.intro | omega | (rw [nd_R hn]; exact shows_fn ⟨_, _, _⟩ ⟨_, _⟩ _ hi (meet_bd _ _)) | exact newView_z _ _ _ _ _ (by assumption) (by assumption) | exact filtered_z (vwOf i o bd k ps) nilD gx _ _ (by assumption)))
            refine WA_block (c := (fcd Tryz.f5 [1, 1, 1, 1, 1, 1, 1, 0, 1, 0, 0, 1, 1, 0, 0, 1, 1, 0])) ?_
            refine V_loop (c := (fcd Tryz.f5 [1, 1, 1, 1, 1, 1, 1, 0, 1, 0, 0, 1, 1, 0, 0, 1, 1, 0, 0])) (α := Nat × Gs) [20, 21, 70, 71, 85] [21, 61, 15100, 18200, 18201, 18202, 18203, 20000, 20001, 20002, 20003] (fun p => [(70, .dat (.i (p.1 : Int)))]) (fun p => (61, some (true, .arr 49 4 ((filP (nn out.w out.h) (gP out.w.toNat (appF (vwOf i o bd k ps) (wtL k (ps.getD 0 0)) out)) (fun _ => zP) (y * out.w.toNat + p.1)).map pxC))) :: rkH 3 64 15100 (vwOf i o bd k ps) nilD ⟨20010, 20011, 20012, 20013⟩ p.2) (fun p => p.1 ≤ out.w.toNat) (fun p => out.w.toNat - p.1) (0, gy) [(20010, some 20000), (20011, some 20001), (20012, some 20002), (20013, some 20003)] ?_ (evs ?_) ?_
            · exact Nat.zero_le _
            · (try with_reducible (repeat' (first | apply And.intro | intro _)))
              all_goals (first | exact True.intro | omega | (first | rfl))
            · rintro ⟨x, gx⟩ hX
              refine WA_seq (x := (fcd Tryz.f5 [1, 1, 1, 1, 1, 1, 1, 0, 1, 0, 0, 1, 1, 0, 0, 1, 1, 0, 0, 0])) (y := (fcd Tryz.f5 [1, 1, 1, 1, 1, 1, 1, 0, 1, 0, 0, 1, 1, 0, 0, 1, 1, 0, 0, 1])) ?_
              refine V_regionZ Γ Δ Θ [] [0, 1, 2, 3, 4, 5, 6, 7, 8, 11, 12, 13, 14, 15, 16, 17, 18, 19, 20, 21, 25, 37, 44, 64, 65, 66, 69, 70, 71, 85] (evs ?_)
              all_goals (try with_reducible (repeat' (first | apply And.intro | intro _)))
              all_goals (try (first | with_reducible refine wa_id ?_ | exact True.intro | omega | (rw [nd_R hn]; exact shows_fn ⟨_, _, _⟩ ⟨_, _⟩ _ hi (meet_bd _ _)) | exact newView_z _ _ _ _ _ (by assumption) (by assumption) | exact filtered_z (vwOf i o bd k ps) nilD gx _ _ (by assumption)))
              refine WA_seq (x := (fcd Tryz.f5 [1, 1, 1, 1, 1, 1, 1, 0, 1, 0, 0, 1, 1, 0, 0, 1, 1, 0, 0, 1, 0])) (y := (fcd Tryz.f5 [1, 1, 1, 1, 1, 1, 1, 0, 1, 0, 0, 1, 1, 0, 0, 1, 1, 0, 0, 1, 1])) ?_
              refine V_cond (evs ?_)
              refine ⟨fun hc => ?_, fun hc => ?_⟩
              · refine WA_skip ?_
                refine WA_seq (x := (fcd Tryz.f5 [1, 1, 1, 1, 1, 1, 1, 0, 1, 0, 0, 1, 1, 0, 0, 1, 1, 0, 0, 1, 1, 0])) (y := (fcd Tryz.f5 [1, 1, 1, 1, 1, 1, 1, 0, 1, 0, 0, 1, 1, 0, 0, 1, 1, 0, 0, 1, 1, 1])) ?_
                refine WA_block (c := (fcd Tryz.f5 [1, 1, 1, 1, 1, 1, 1, 0, 1, 0, 0, 1, 1, 0, 0, 1, 1, 0, 0, 1, 1, 0, 0])) ?_
                refine WA_seq (x := (fcd Tryz.f5 [1, 1, 1, 1, 1, 1, 1, 0, 1, 0, 0, 1, 1, 0, 0, 1, 1, 0, 0, 1, 1, 0, 0, 0])) (y := (fcd Tryz.f5 [1, 1, 1, 1, 1, 1, 1, 0, 1, 0, 0, 1, 1, 0, 0, 1, 1, 0, 0, 1, 1, 0, 0, 1])) ?_
                refine V_regionZ Γ Δ Θ [] [0, 1, 2, 3, 4, 5, 6, 7, 8, 11, 12, 13, 14, 15, 16, 17, 18, 19, 20, 21, 25, 37, 44, 64, 65, 66, 69, 70, 71, 85] (evs ?_)
                all_goals (try with_reducible (repeat' (first | apply And.intro | intro _)))
                all_goals (try (first | with_reducible refine wa_id ?_ | exact True.intro | omega | (rw [nd_R hn]; exact shows_fn ⟨_, _, _⟩ ⟨_, _⟩ _ hi (meet_bd _ _)) | exact newView_z _ _ _ _ _ (by assumption) (by assumption) | exact filtered_z (vwOf i o bd k ps) nilD gx _ _ (by assumption)))
                refine WA_seq (x := (fcd Tryz.f5 [1, 1, 1, 1, 1, 1, 1, 0, 1, 0, 0, 1, 1, 0, 0, 1, 1, 0, 0, 1, 1, 0, 0, 1, 0])) (y := (fcd Tryz.f5 [1, 1, 1, 1, 1, 1, 1, 0, 1, 0, 0, 1, 1, 0, 0, 1, 1, 0, 0, 1, 1, 0, 0, 1, 1])) ?_
                refine V_regionZ Γ Δ Θ [] [0, 1, 2, 3, 4, 5, 6, 7, 8, 11, 12, 13, 14, 15, 16, 17, 18, 19, 20, 21, 25, 37, 44, 64, 65, 66, 69, 70, 71, 85] (evs ?_)
                (try simp (maxSteps := 10000000) (disch := omega) only [w64])
                have hx := ‹(x : Int) < out.w›
                have hy := ‹(y : Int) < out.h›
                have sq := ap_rk (k := k) hk hi hn hs hx hy
                all_goals (try with_reducible (repeat' (first | apply And.intro | intro _)))
                all_goals (try (first | with_reducible refine wa_id ?_ | exact True.intro | exact filtered_fn ⟨⟨_, _, _⟩, ⟨_, _⟩, ⟨_, _, _, _⟩, _, _, _⟩ _ _ _ _ _ _ _ (by assumption) (by assumption) (by assumption) | omega | (rw [nd_R hn]; exact shows_fn ⟨_, _, _⟩ ⟨_, _⟩ _ hi (meet_bd _ _)) | exact newView_z _ _ _ _ _ (by assumption) (by assumption) | exact filtered_z (vwOf i o bd k ps) nilD gx _ _ (by assumption)))
                rename_i g2
                refine WA_seq (x := (fcd Tryz.f5 [1, 1, 1, 1, 1, 1, 1, 0, 1, 0, 0, 1, 1, 0, 0, 1, 1, 0, 0, 1, 1, 0, 0, 1, 1, 0])) (y := (fcd Tryz.f5 [1, 1, 1, 1, 1, 1, 1, 0, 1, 0, 0, 1, 1, 0, 0, 1, 1, 0, 0, 1, 1, 0, 0, 1, 1, 1])) ?_
                refine V_regionZ Γ Δ Θ [] [0, 1, 2, 3, 4, 5, 6, 7, 8, 11, 12, 13, 14, 15, 16, 17, 18, 19, 20, 21, 25, 37, 44, 64, 65, 66, 69, 70, 71, 85] (evs ?_)
                all_goals (try with_reducible (repeat' (first | apply And.intro | intro _)))
                all_goals (try (first | with_reducible refine wa_id ?_ | exact True.intro | omega | (rw [nd_R hn]; exact shows_fn ⟨_, _, _⟩ ⟨_, _⟩ _ hi (meet_bd _ _)) | exact newView_z _ _ _ _ _ (by assumption) (by assumption) | exact filtered_z (vwOf i o bd k ps) nilD gx _ _ (by assumption)))
                refine V_cond (evs ?_)
                refine ⟨fun hc => ?_, fun hc => ?_⟩
                · refine V_regionZ Γ Δ Θ [] [0, 1, 2, 3, 4, 5, 6, 7, 8, 11, 12, 13, 14, 15, 16, 17, 18, 19, 20, 21, 25, 37, 44, 64, 65, 66, 69, 70, 71, 85] (evs ?_)
                  have hix := yxI hz hy hx
                  simp only [yxW hz hy hx, Int.toNat_natCast]
                  all_goals (try with_reducible (repeat' (first | apply And.intro | intro _)))
                  all_goals (try (first | with_reducible refine wa_id ?_ | exact True.intro | omega | (rw [nd_R hn]; exact shows_fn ⟨_, _, _⟩ ⟨_, _⟩ _ hi (meet_bd _ _)) | exact newView_z _ _ _ _ _ (by assumption) (by assumption) | exact filtered_z (vwOf i o bd k ps) nilD gx _ _ (by assumption)))
                  refine V_regionZ Γ Δ Θ [] [0, 1, 2, 3, 4, 5, 6, 7, 8, 11, 12, 13, 14, 15, 16, 17, 18, 19, 20, 21, 25, 37, 44, 64, 65, 66, 69, 70, 71, 85] (evs ?_)
                  all_goals (try with_reducible (repeat' (first | apply And.intro | intro _)))
                  all_goals (try (first | with_reducible refine wa_id ?_ | exact True.intro | omega | (rw [nd_R hn]; exact shows_fn ⟨_, _, _⟩ ⟨_, _⟩ _ hi (meet_bd _ _)) | exact newView_z _ _ _ _ _ (by assumption) (by assumption) | exact filtered_z (vwOf i o bd k ps) nilD gx _ _ (by assumption)))
                  refine V_next [(20010, some 18200), (20011, some 18201), (20012, some 18202), (20013, some 18203)] (x + 1, g2) (evs ?_) ?_ ?_
                  all_goals (try with_reducible (repeat' (first | apply And.intro | intro _)))
                  all_goals (first | exact True.intro | omega | (first | exact w64l (n := 65536) (by omega) (by omega) | exact filP_setC (by rw [gP_at (by omega)]; exact (clr1 hc).trans (apr hk).symm) | exact congrArg (List.map pxC) (filP_skip (by rw [gP_at (by omega)]; exact (clr2 hc).trans (apr hk).symm))))
                · refine WA_skip ?_
                  refine V_regionZ Γ Δ Θ [] [0, 1, 2, 3, 4, 5, 6, 7, 8, 11, 12, 13, 14, 15, 16, 17, 18, 19, 20, 21, 25, 37, 44, 64, 65, 66, 69, 70, 71, 85] (evs ?_)
                  all_goals (try with_reducible (repeat' (first | apply And.intro | intro _)))
                  all_goals (try (first | with_reducible refine wa_id ?_ | exact True.intro | omega | (rw [nd_R hn]; exact shows_fn ⟨_, _, _⟩ ⟨_, _⟩ _ hi (meet_bd _ _)) | exact newView_z _ _ _ _ _ (by assumption) (by assumption) | exact filtered_z (vwOf i o bd k ps) nilD gx _ _ (by assumption)))
                  refine V_next [(20010, some 18200), (20011, some 18201), (20012, some 18202), (20013, some 18203)] (x + 1, g2) (evs ?_) ?_ ?_
                  all_goals (try with_reducible (repeat' (first | apply And.intro | intro _)))
                  all_goals (first | exact True.intro | omega | (first | exact w64l (n := 65536) (by omega) (by omega) | exact filP_setC (by rw [gP_at (by omega)]; exact (clr1 hc).trans (apr hk).symm) | exact congrArg (List.map pxC) (filP_skip (by rw [gP_at (by omega)]; exact (clr2 hc).trans (apr hk).symm))))
              · refine V_exit (evs ?_)
                refine V_regionZ Γ Δ Θ [] [0, 1, 2, 3, 4, 5, 6, 7, 8, 11, 12, 13, 14, 15, 16, 17, 18, 19, 20, 21, 25, 37, 44, 64, 65, 66, 69, 70, 71, 85] (evs ?_)
                all_goals (try with_reducible (repeat' (first | apply And.intro | intro _)))
                all_goals (try (first | with_reducible refine wa_id ?_ | exact True.intro | omega | (rw [nd_R hn]; exact shows_fn ⟨_, _, _⟩ ⟨_, _⟩ _ hi (meet_bd _ _)) | exact newView_z _ _ _ _ _ (by assumption) (by assumption) | exact filtered_z (vwOf i o bd k ps) nilD gx _ _ (by assumption)))
                refine V_next [(20000, some 20010), (20001, some 20011), (20002, some 20012), (20003, some 20013)] (y + 1, gx) (evs ?_) ?_ ?_
                all_goals (try with_reducible (repeat' (first | apply And.intro | intro _)))
                all_goals (first | exact True.intro | omega | (first | exact w64l (n := 65536) (by omega) (by omega) | (rw [row_e (y := y) (w := out.w.toNat) (by omega) (by omega)]; done)))
          · refine V_exit (evs ?_)
            refine WA_seq (x := (fcd Tryz.f5 [1, 1, 1, 1, 1, 1, 1, 1, 0])) (y := (fcd Tryz.f5 [1, 1, 1, 1, 1, 1, 1, 1, 1])) ?_
            refine V_regionZ Γ Δ Θ [] [0, 1, 2, 3, 4, 5, 6, 7, 8, 11, 12, 13, 14, 15, 16, 17, 18, 19, 20, 21, 25, 37, 44, 64, 65, 66, 69, 70, 71, 85] (evs ?_)
            all_goals (try with_reducible (repeat' (first | apply And.intro | intro _)))
            all_goals (try (first | with_reducible refine wa_id ?_ | exact True.intro | omega | (rw [nd_R hn]; exact shows_fn ⟨_, _, _⟩ ⟨_, _⟩ _ hi (meet_bd _ _)) | exact newView_z _ _ _ _ _ (by assumption) (by assumption) | exact filtered_z (vwOf i o bd k ps) nilD gx _ _ (by assumption)))
            refine V_ret (evs ?_)
            first | exact ik0 _ (ap1 hc) | exact ik0 _ (ap2 ‹_› hc) | exact ik0 _ (ap3 ‹_› ‹_› hc) | (rw [fallP hY hc]; exact ik _ (ap4 hi hn ‹_›))

end Go.S16

