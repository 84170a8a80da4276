import Derived.Test.YtdillkdhpalgcaaLI
import Derived.Test.YtdillkdhpalgcaaE1
import Derived.Test.YtdillkdhpalgcaaB9
import Derived.Test.YtdillkdhpalgcaaB10
set_option linter.unusedSimpArgs false
set_option linter.unusedVariables false
set_option linter.unusedSimpArgs false
set_option linter.unusedVariables false
namespace Go.S16
open Go.RowKit Go.Proofs Go.Eng Go.Rect
set_option maxHeartbeats 8000000 in
set_option maxRecDepth 100000 in
/-- imageeditor/imageeditorlaw16.FilterUniform -/
theorem l_uniform (p : Px) (w h k : Int) (ps : List Int) : Eng.Fn Try.prog 5 [.agg [.i p.r, .i p.g, .i p.b, .i p.a, .i w, .i h, .i k, .sl 1 (ps.map iC)]] (.dat (.b true)) := by
  refine Eng.Fn.by (fn := Try.f5) 91 [.tmp 2] Try.func5 rfl Try.ntmps5 rfl (by simp) fun w0 G0 => ?_
  refine WA_seq (x := (fcd Try.f5 [0])) (y := (fcd Try.f5 [1])) ?_
  refine V_regionX Γ Δ [26, 52] [0, 1, 2, 3, 4, 5, 6, 7, 8, 9, 10, 11, 47, 65, 67, 72, 80, 89] (evs ?_)
  all_goals (try with_reducible (repeat' (first | apply And.intro | intro _)))
  all_goals (try (first | with_reducible refine wa_id ?_ | exact True.intro | omega | exact whole_fn _ _ _))
  refine WA_seq (x := (fcd Try.f5 [1, 0])) (y := (fcd Try.f5 [1, 1])) ?_
  refine V_drawA Γ [(1, 1, 1000000), (3, 1, 1000000), (5, 1, 1000000), (7, 1, 1000000), (9, 1, 1000000), (11, 3, 1000000)] [26, 52] [0, 1, 2, 3, 4, 5, 6, 7, 8, 9, 10, 11, 47, 65, 67, 72, 80, 89] mixed (by kernel_rfl) (evs ?_)
  all_goals (try with_reducible (repeat' (first | apply And.intro | intro _)))
  all_goals (try (first | with_reducible refine wa_id ?_ | exact True.intro | omega | exact whole_fn _ _ _))
  refine WA_seq (x := (fcd Try.f5 [1, 1, 0])) (y := (fcd Try.f5 [1, 1, 1])) ?_
  refine V_regionX Γ Δ [26, 52] [0, 1, 2, 3, 4, 5, 6, 7, 8, 9, 10, 11, 47, 65, 67, 72, 80, 89] (evs ?_)
  all_goals (try with_reducible (repeat' (first | apply And.intro | intro _)))
  all_goals (try (first | with_reducible refine wa_id ?_ | exact True.intro | exact rnwp_fn _ _ ⟨_, _, _, _⟩ | omega | exact whole_fn _ _ _))
  refine WA_seq (x := (fcd Try.f5 [1, 1, 1, 0])) (y := (fcd Try.f5 [1, 1, 1, 1])) ?_
  refine WA_seq (x := (fcd Try.f5 [1, 1, 1, 0, 0])) (y := (fcd Try.f5 [1, 1, 1, 0, 1])) ?_
  refine V_regionX Γ Δ [26, 52] [0, 1, 2, 3, 4, 5, 6, 7, 8, 9, 10, 11, 47, 65, 67, 72, 80, 89] (evs ?_)
  all_goals (try with_reducible (repeat' (first | apply And.intro | intro _)))
  all_goals (try (first | with_reducible refine wa_id ?_ | exact True.intro | exact rfcheck_fn _ _ | omega | exact whole_fn _ _ _))
  refine V_cond (evs ?_)
  refine ⟨fun hc => ?_, fun hc => ?_⟩
  · refine WA_seq (x := (fcd Try.f5 [1, 1, 1, 0, 1, 0, 0])) (y := (fcd Try.f5 [1, 1, 1, 0, 1, 0, 1])) ?_
    refine V_regionX Γ Δ [26, 52] [0, 1, 2, 3, 4, 5, 6, 7, 8, 9, 10, 11, 47, 65, 67, 72, 80, 89] (evs ?_)
    all_goals (try with_reducible (repeat' (first | apply And.intro | intro _)))
    all_goals (try (first | with_reducible refine wa_id ?_ | exact True.intro | omega | exact whole_fn _ _ _))
    refine V_ret (evs ?_)
    first | rfl | (exfalso; exact px_neB hc (um_px H (by omega))) | (simp; done)
  · refine WA_skip ?_
    refine WA_seq (x := (fcd Try.f5 [1, 1, 1, 1, 0])) (y := (fcd Try.f5 [1, 1, 1, 1, 1])) ?_
    refine V_regionX Γ Δ [26, 52] [0, 1, 2, 3, 4, 5, 6, 7, 8, 9, 10, 11, 47, 65, 67, 72, 80, 89] (evs ?_)
    have H : UnH w h p k ps := un_mk hc
    have hu := um_0 H
    all_goals (try with_reducible (repeat' (first | apply And.intro | intro _)))
    all_goals (try (first | with_reducible refine wa_id ?_ | exact True.intro | exact whole_fn ⟨_, _, _⟩ _ _ | omega | exact whole_fn _ _ _))
    refine WA_seq (x := (fcd Try.f5 [1, 1, 1, 1, 1, 0])) (y := (fcd Try.f5 [1, 1, 1, 1, 1, 1])) ?_
    refine WA_seq (x := (fcd Try.f5 [1, 1, 1, 1, 1, 0, 0])) (y := (fcd Try.f5 [1, 1, 1, 1, 1, 0, 1])) ?_
    refine V_regionX Γ Δ [26, 52] [0, 1, 2, 3, 4, 5, 6, 7, 8, 9, 10, 11, 47, 65, 67, 72, 80, 89] (evs ?_)
    all_goals (try with_reducible (repeat' (first | apply And.intro | intro _)))
    all_goals (try (first | with_reducible refine wa_id ?_ | exact True.intro | omega | exact whole_fn _ _ _))
    simp only [hu.1, hu.2, bne_self_eq_false, Bool.or_self]
    refine V_cond (evs ?_)
    refine ⟨fun hc => hc.elim, ?_⟩
    refine WA_skip ?_
    refine V_cut (x := (fcd Try.f5 [1, 1, 1, 1, 1, 1, 0])) (y := (fcd Try.f5 [1, 1, 1, 1, 1, 1, 1])) (α := Unit) [67] [3] (fun _ => []) (fun _ => [(3, some (true, .box 51 [.dat (.i (plQ k p).r), .dat (.i (plQ k p).g), .dat (.i (plQ k p).b), .dat (.i (plQ k p).a)]))]) (fun _ => True) ?_ ?_
    · refine WA_seq (x := (fcd Try.f5 [1, 1, 1, 1, 1, 1, 0, 0])) (y := (fcd Try.f5 [1, 1, 1, 1, 1, 1, 0, 1])) ?_
      refine V_regionX Γ Δ [26, 52] [0, 1, 2, 3, 4, 5, 6, 7, 8, 9, 10, 11, 47, 65, 67, 72, 80, 89] (evs ?_)
      all_goals (try with_reducible (repeat' (first | apply And.intro | intro _)))
      all_goals (try (first | with_reducible refine wa_id ?_ | exact True.intro | omega | exact whole_fn _ _ _))
      refine V_cond (evs ?_)
      refine ⟨fun hc => ?_, fun hc => ?_⟩
      · refine V_regionX Γ Δ [26, 52] [0, 1, 2, 3, 4, 5, 6, 7, 8, 9, 10, 11, 47, 65, 67, 72, 80, 89] (evs ?_)
        all_goals (try with_reducible (repeat' (first | apply And.intro | intro _)))
        all_goals (try (first | with_reducible refine wa_id ?_ | exact True.intro | omega | exact whole_fn _ _ _))
        refine V_jn [] () (evs ?_) ?_
        all_goals (try with_reducible (repeat' (first | apply And.intro | intro _)))
        all_goals (first | exact True.intro | omega | (first | (rw [plQ, if_pos hc]; done) | (rw [plQ, if_neg hc]; done)))
      · refine WA_skip ?_
        refine V_jn [] () (evs ?_) ?_
        all_goals (try with_reducible (repeat' (first | apply And.intro | intro _)))
        all_goals (first | exact True.intro | omega | (first | (rw [plQ, if_pos hc]; done) | (rw [plQ, if_neg hc]; done)))
    · intro _ _
      refine V_cut (x := (fcd Try.f5 [1, 1, 1, 1, 1, 1, 1, 0])) (y := (fcd Try.f5 [1, 1, 1, 1, 1, 1, 1, 1])) (α := Unit) [72] [3] (fun _ => []) (fun _ => [(3, some (true, .box 51 [.dat (.i (plP k p).r), .dat (.i (plP k p).g), .dat (.i (plP k p).b), .dat (.i (plP k p).a)]))]) (fun _ => True) ?_ ?_
      · refine WA_seq (x := (fcd Try.f5 [1, 1, 1, 1, 1, 1, 1, 0, 0])) (y := (fcd Try.f5 [1, 1, 1, 1, 1, 1, 1, 0, 1])) ?_
        refine V_regionX Γ Δ [26, 52] [0, 1, 2, 3, 4, 5, 6, 7, 8, 9, 10, 11, 47, 65, 67, 72, 80, 89] (evs ?_)
        all_goals (try with_reducible (repeat' (first | apply And.intro | intro _)))
        all_goals (try (first | with_reducible refine wa_id ?_ | exact True.intro | omega | exact whole_fn _ _ _))
        refine V_cond (evs ?_)
        refine ⟨fun hc => ?_, fun hc => ?_⟩
        · refine V_regionX Γ Δ [26, 52] [0, 1, 2, 3, 4, 5, 6, 7, 8, 9, 10, 11, 47, 65, 67, 72, 80, 89] (evs ?_)
          all_goals (try with_reducible (repeat' (first | apply And.intro | intro _)))
          all_goals (try (first | with_reducible refine wa_id ?_ | exact True.intro | omega | exact whole_fn _ _ _))
          refine V_jn [] () (evs ?_) ?_
          all_goals (try with_reducible (repeat' (first | apply And.intro | intro _)))
          all_goals (first | exact True.intro | omega | (first | (rw [plQ6 hc]; done) | (rw [plQ5 hc]; done)))
        · refine WA_skip ?_
          refine V_jn [] () (evs ?_) ?_
          all_goals (try with_reducible (repeat' (first | apply And.intro | intro _)))
          all_goals (first | exact True.intro | omega | (first | (rw [plQ6 hc]; done) | (rw [plQ5 hc]; done)))
      · intro _ _
        refine WA_seq (x := (fcd Try.f5 [1, 1, 1, 1, 1, 1, 1, 1, 0])) (y := (fcd Try.f5 [1, 1, 1, 1, 1, 1, 1, 1, 1])) ?_
        refine WA_seq (x := (fcd Try.f5 [1, 1, 1, 1, 1, 1, 1, 1, 0, 0])) (y := (fcd Try.f5 [1, 1, 1, 1, 1, 1, 1, 1, 0, 1])) ?_
        refine V_regionX Γ Δ [26, 52] [0, 1, 2, 3, 4, 5, 6, 7, 8, 9, 10, 11, 47, 65, 67, 72, 80, 89] (evs ?_)
        all_goals (try with_reducible (repeat' (first | apply And.intro | intro _)))
        all_goals (try (first | with_reducible refine wa_id ?_ | exact True.intro | omega | exact whole_fn _ _ _))
        refine WA_block (c := (fcd Try.f5 [1, 1, 1, 1, 1, 1, 1, 1, 0, 1, 0])) ?_
        refine V_loop (c := (fcd Try.f5 [1, 1, 1, 1, 1, 1, 1, 1, 0, 1, 0, 0])) (α := Nat) [2, 11, 80, 89] [] (fun j => [(11, .dat (.i (j : Int)))]) (fun j => []) (fun j => j ≤ (whlR (nwpR w h p) k ps).p.length) (fun j => (whlR (nwpR w h p) k ps).p.length - j) 0 [] ?_ (evs ?_) ?_
        · exact Nat.zero_le _
        · (try with_reducible (repeat' (first | apply And.intro | intro _)))
          all_goals (first | exact True.intro | omega | (first | rfl))
        · intro j hJ
          refine WA_seq (x := (fcd Try.f5 [1, 1, 1, 1, 1, 1, 1, 1, 0, 1, 0, 0, 0])) (y := (fcd Try.f5 [1, 1, 1, 1, 1, 1, 1, 1, 0, 1, 0, 0, 1])) ?_
          refine WA_seq (x := (fcd Try.f5 [1, 1, 1, 1, 1, 1, 1, 1, 0, 1, 0, 0, 0, 0])) (y := (fcd Try.f5 [1, 1, 1, 1, 1, 1, 1, 1, 0, 1, 0, 0, 0, 1])) ?_
          refine V_regionX Γ Δ [26, 52] [0, 1, 2, 3, 4, 5, 6, 7, 8, 9, 10, 11, 47, 65, 67, 72, 80, 89] (evs ?_)
          all_goals (try with_reducible (repeat' (first | apply And.intro | intro _)))
          all_goals (try (first | with_reducible refine wa_id ?_ | exact True.intro | omega | exact whole_fn _ _ _))
          refine V_cond (evs ?_)
          refine ⟨fun hc => ?_, fun hc => ?_⟩
          · refine WA_skip ?_
            refine WA_seq (x := (fcd Try.f5 [1, 1, 1, 1, 1, 1, 1, 1, 0, 1, 0, 0, 1, 0])) (y := (fcd Try.f5 [1, 1, 1, 1, 1, 1, 1, 1, 0, 1, 0, 0, 1, 1])) ?_
            refine WA_block (c := (fcd Try.f5 [1, 1, 1, 1, 1, 1, 1, 1, 0, 1, 0, 0, 1, 0, 0])) ?_
            refine WA_seq (x := (fcd Try.f5 [1, 1, 1, 1, 1, 1, 1, 1, 0, 1, 0, 0, 1, 0, 0, 0])) (y := (fcd Try.f5 [1, 1, 1, 1, 1, 1, 1, 1, 0, 1, 0, 0, 1, 0, 0, 1])) ?_
            refine V_draw Γ [26, 52] [0, 1, 2, 3, 4, 5, 6, 7, 8, 9, 10, 11, 47, 65, 67, 72, 80, 89] mixed (by kernel_rfl) (evs ?_)
            all_goals (try with_reducible (repeat' (first | apply And.intro | intro _)))
            all_goals (try (first | with_reducible refine wa_id ?_ | exact True.intro | omega | exact whole_fn _ _ _))
            refine V_cond (evs ?_)
            refine ⟨fun hc => ?_, fun hc => ?_⟩
            · refine WA_seq (x := (fcd Try.f5 [1, 1, 1, 1, 1, 1, 1, 1, 0, 1, 0, 0, 1, 0, 0, 1, 0, 0])) (y := (fcd Try.f5 [1, 1, 1, 1, 1, 1, 1, 1, 0, 1, 0, 0, 1, 0, 0, 1, 0, 1])) ?_
              refine V_regionX Γ Δ [26, 52] [0, 1, 2, 3, 4, 5, 6, 7, 8, 9, 10, 11, 47, 65, 67, 72, 80, 89] (evs ?_)
              all_goals (try with_reducible (repeat' (first | apply And.intro | intro _)))
              all_goals (try (first | with_reducible refine wa_id ?_ | exact True.intro | omega | exact whole_fn _ _ _))
              refine V_ret (evs ?_)
              first | rfl | (exfalso; exact px_neB hc (um_px H (by omega))) | (simp; done)
            · refine WA_skip ?_
              refine V_regionX Γ Δ [26, 52] [0, 1, 2, 3, 4, 5, 6, 7, 8, 9, 10, 11, 47, 65, 67, 72, 80, 89] (evs ?_)
              all_goals (try with_reducible (repeat' (first | apply And.intro | intro _)))
              all_goals (try (first | with_reducible refine wa_id ?_ | exact True.intro | omega | exact whole_fn _ _ _))
              refine V_next [] (j + 1) (evs ?_) ?_ ?_
              all_goals (try with_reducible (repeat' (first | apply And.intro | intro _)))
              all_goals (first | exact True.intro | omega | (first | exact w64l ‹(j : Int) < _› ‹(whlR (nwpR w h p) k ps).p.length ≤ 281474976710656›))
          · refine V_exit (evs ?_)
            refine WA_seq (x := (fcd Try.f5 [1, 1, 1, 1, 1, 1, 1, 1, 1, 0])) (y := (fcd Try.f5 [1, 1, 1, 1, 1, 1, 1, 1, 1, 1])) ?_
            refine V_regionX Γ Δ [26, 52] [0, 1, 2, 3, 4, 5, 6, 7, 8, 9, 10, 11, 47, 65, 67, 72, 80, 89] (evs ?_)
            all_goals (try with_reducible (repeat' (first | apply And.intro | intro _)))
            all_goals (try (first | with_reducible refine wa_id ?_ | exact True.intro | exact example_fn | omega | exact whole_fn _ _ _))
            refine V_ret (evs ?_)
            first | rfl | (exfalso; exact px_neB hc (um_px H (by omega))) | (simp; done)

end Go.S16

