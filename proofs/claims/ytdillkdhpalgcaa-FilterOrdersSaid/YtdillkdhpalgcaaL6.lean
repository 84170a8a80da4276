import Derived.Test.YtdillkdhpalgcaaB9
import Derived.Test.YtdillkdhpalgcaaB10
import Derived.Test.YtdillkdhpalgcaaLG
set_option linter.unusedSimpArgs false
set_option linter.unusedVariables false
namespace Go.S16
open Go.RowKit Go.Proofs Go.Eng Go.Rect
set_option maxHeartbeats 8000000 in
set_option maxRecDepth 100000 in
/-- imageeditor/imageeditorlaw16.FilterOrders -/
theorem l_orders (i : Im) (r : Int) : Eng.Fn Try.prog 6 [imD i, .i r] (.dat (.b true)) := by
  refine Eng.Fn.by (fn := Try.f6) 199 [.tmp 4] Try.func6 rfl Try.ntmps6 rfl (by simp) fun w0 G0 => ?_
  refine WA_seq (x := (fcd Try.f6 [0])) (y := (fcd Try.f6 [1])) ?_
  refine V_regionX Γ Δ [50, 57, 64, 170] [0, 1, 2, 4, 5, 6, 7, 8, 9, 10, 11, 12, 13, 14, 31, 36, 45, 103, 108, 164, 166] (evs ?_)
  all_goals (try with_reducible (repeat' (first | apply And.intro | intro _)))
  all_goals (try (first | with_reducible refine wa_id ?_ | exact True.intro | omega | exact whole_fn i 8 [r] (by omega) | exact whole_fn i 4 [r] (by omega) | exact whole_fn i 7 [r] (by omega) | exact whole_fn i 1 [0] (by omega) | exact sameI_fn _ _ | exact below_fn _ _))
  refine WA_seq (x := (fcd Try.f6 [1, 0])) (y := (fcd Try.f6 [1, 1])) ?_
  refine WA_seq (x := (fcd Try.f6 [1, 0, 0])) (y := (fcd Try.f6 [1, 0, 1])) ?_
  refine V_regionX Γ Δ [50, 57, 64, 170] [0, 1, 2, 4, 5, 6, 7, 8, 9, 10, 11, 12, 13, 14, 31, 36, 45, 103, 108, 164, 166] (evs ?_)
  all_goals (try with_reducible (repeat' (first | apply And.intro | intro _)))
  all_goals (try (first | with_reducible refine wa_id ?_ | exact True.intro | exact richeck_fn ⟨_, _, _⟩ | omega | exact whole_fn i 8 [r] (by omega) | exact whole_fn i 4 [r] (by omega) | exact whole_fn i 7 [r] (by omega) | exact whole_fn i 1 [0] (by omega) | exact sameI_fn _ _ | exact below_fn _ _))
  refine V_cond (evs ?_)
  refine ⟨fun hc => ?_, fun hc => ?_⟩
  · refine WA_seq (x := (fcd Try.f6 [1, 0, 1, 0, 0])) (y := (fcd Try.f6 [1, 0, 1, 0, 1])) ?_
    refine V_regionX Γ Δ [50, 57, 64, 170] [0, 1, 2, 4, 5, 6, 7, 8, 9, 10, 11, 12, 13, 14, 31, 36, 45, 103, 108, 164, 166] (evs ?_)
    all_goals (try with_reducible (repeat' (first | apply And.intro | intro _)))
    all_goals (try (first | with_reducible refine wa_id ?_ | exact True.intro | omega | exact whole_fn i 8 [r] (by omega) | exact whole_fn i 4 [r] (by omega) | exact whole_fn i 7 [r] (by omega) | exact whole_fn i 1 [0] (by omega) | exact sameI_fn _ _ | exact below_fn _ _))
    refine V_ret (evs ?_)
    first | rfl | (simp; done)
  · refine WA_skip ?_
    refine WA_seq (x := (fcd Try.f6 [1, 1, 0])) (y := (fcd Try.f6 [1, 1, 1])) ?_
    refine WA_seq (x := (fcd Try.f6 [1, 1, 0, 0])) (y := (fcd Try.f6 [1, 1, 0, 1])) ?_
    refine V_regionX Γ Δ [50, 57, 64, 170] [0, 1, 2, 4, 5, 6, 7, 8, 9, 10, 11, 12, 13, 14, 31, 36, 45, 103, 108, 164, 166] (evs ?_)
    have h0 := hc
    have hi : ichkE i = 0 := h0.1.1.1
    have hr : 0 ≤ r ∧ r ≤ 4 := ⟨h0.1.1.2, h0.1.2⟩
    all_goals (try with_reducible (repeat' (first | apply And.intro | intro _)))
    all_goals (try (first | with_reducible refine wa_id ?_ | exact True.intro | omega | exact whole_fn i 8 [r] (by omega) | exact whole_fn i 4 [r] (by omega) | exact whole_fn i 7 [r] (by omega) | exact whole_fn i 1 [0] (by omega) | exact sameI_fn _ _ | exact below_fn _ _))
    refine WA_block (c := (fcd Try.f6 [1, 1, 0, 1, 0])) ?_
    refine V_loop (c := (fcd Try.f6 [1, 1, 0, 1, 0, 0])) (α := Nat) [4, 5, 36, 45] [] (fun k => [(5, .dat (.i (k : Int)))]) (fun k => []) (fun k => k ≤ i.p.length ∧ ∀ j, j < k → ¬ (i.p.getD j zP).a = 0) (fun k => i.p.length - k) 0 [] ?_ (evs ?_) ?_
    · exact ⟨Nat.zero_le _, fun j hj => by omega⟩
    · (try with_reducible (repeat' (first | apply And.intro | intro _)))
      all_goals (first | exact True.intro | omega | (first | rfl))
    · intro k hI
      refine WA_seq (x := (fcd Try.f6 [1, 1, 0, 1, 0, 0, 0])) (y := (fcd Try.f6 [1, 1, 0, 1, 0, 0, 1])) ?_
      refine WA_seq (x := (fcd Try.f6 [1, 1, 0, 1, 0, 0, 0, 0])) (y := (fcd Try.f6 [1, 1, 0, 1, 0, 0, 0, 1])) ?_
      refine V_regionX Γ Δ [50, 57, 64, 170] [0, 1, 2, 4, 5, 6, 7, 8, 9, 10, 11, 12, 13, 14, 31, 36, 45, 103, 108, 164, 166] (evs ?_)
      all_goals (try with_reducible (repeat' (first | apply And.intro | intro _)))
      all_goals (try (first | with_reducible refine wa_id ?_ | exact True.intro | omega | exact whole_fn i 8 [r] (by omega) | exact whole_fn i 4 [r] (by omega) | exact whole_fn i 7 [r] (by omega) | exact whole_fn i 1 [0] (by omega) | exact sameI_fn _ _ | exact below_fn _ _))
      refine V_cond (evs ?_)
      refine ⟨fun hc => ?_, fun hc => ?_⟩
      · refine WA_skip ?_
        refine WA_seq (x := (fcd Try.f6 [1, 1, 0, 1, 0, 0, 1, 0])) (y := (fcd Try.f6 [1, 1, 0, 1, 0, 0, 1, 1])) ?_
        refine WA_block (c := (fcd Try.f6 [1, 1, 0, 1, 0, 0, 1, 0, 0])) ?_
        refine WA_seq (x := (fcd Try.f6 [1, 1, 0, 1, 0, 0, 1, 0, 0, 0])) (y := (fcd Try.f6 [1, 1, 0, 1, 0, 0, 1, 0, 0, 1])) ?_
        refine V_regionX Γ Δ [50, 57, 64, 170] [0, 1, 2, 4, 5, 6, 7, 8, 9, 10, 11, 12, 13, 14, 31, 36, 45, 103, 108, 164, 166] (evs ?_)
        all_goals (try with_reducible (repeat' (first | apply And.intro | intro _)))
        all_goals (try (first | with_reducible refine wa_id ?_ | exact True.intro | omega | exact whole_fn i 8 [r] (by omega) | exact whole_fn i 4 [r] (by omega) | exact whole_fn i 7 [r] (by omega) | exact whole_fn i 1 [0] (by omega) | exact sameI_fn _ _ | exact below_fn _ _))
        refine V_cond (evs ?_)
        refine ⟨fun hc => ?_, fun hc => ?_⟩
        · refine WA_seq (x := (fcd Try.f6 [1, 1, 0, 1, 0, 0, 1, 0, 0, 1, 0, 0])) (y := (fcd Try.f6 [1, 1, 0, 1, 0, 0, 1, 0, 0, 1, 0, 1])) ?_
          refine V_regionX Γ Δ [50, 57, 64, 170] [0, 1, 2, 4, 5, 6, 7, 8, 9, 10, 11, 12, 13, 14, 31, 36, 45, 103, 108, 164, 166] (evs ?_)
          all_goals (try with_reducible (repeat' (first | apply And.intro | intro _)))
          all_goals (try (first | with_reducible refine wa_id ?_ | exact True.intro | omega | exact whole_fn i 8 [r] (by omega) | exact whole_fn i 4 [r] (by omega) | exact whole_fn i 7 [r] (by omega) | exact whole_fn i 1 [0] (by omega) | exact sameI_fn _ _ | exact below_fn _ _))
          refine V_ret (evs ?_)
          first | rfl | (simp; done)
        · refine WA_skip ?_
          refine V_regionX Γ Δ [50, 57, 64, 170] [0, 1, 2, 4, 5, 6, 7, 8, 9, 10, 11, 12, 13, 14, 31, 36, 45, 103, 108, 164, 166] (evs ?_)
          all_goals (try with_reducible (repeat' (first | apply And.intro | intro _)))
          all_goals (try (first | with_reducible refine wa_id ?_ | exact True.intro | omega | exact whole_fn i 8 [r] (by omega) | exact whole_fn i 4 [r] (by omega) | exact whole_fn i 7 [r] (by omega) | exact whole_fn i 1 [0] (by omega) | exact sameI_fn _ _ | exact below_fn _ _))
          refine V_next [] (k + 1) (evs ?_) ?_ ?_
          all_goals (try with_reducible (repeat' (first | apply And.intro | intro _)))
          all_goals (first | exact True.intro | omega | (first | exact w64l ‹(k : Int) < _› ‹i.p.length ≤ 281474976710656› | exact al_1 hI.2 hc _ ‹_› | exact al_1 hI.2 hc))
      · refine V_exit (evs ?_)
        refine WA_seq (x := (fcd Try.f6 [1, 1, 1, 0])) (y := (fcd Try.f6 [1, 1, 1, 1])) ?_
        refine V_regionX Γ Δ [50, 57, 64, 170] [0, 1, 2, 4, 5, 6, 7, 8, 9, 10, 11, 12, 13, 14, 31, 36, 45, 103, 108, 164, 166] (evs ?_)
        have hA : ∀ j, j < i.p.length → ¬ (i.p.getD j zP).a = 0 := fun j hj => hI.2 j (by omega)
        have ow8w := oE (k := 8) hi hr (by omega)
        have ow4w := oE (k := 4) hi hr (by omega)
        have ow7w := oE (k := 7) hi hr (by omega)
        have lw8w := ow8w.2
        have lw4w := ow4w.2
        have lw7w := ow7w.2
        all_goals (try with_reducible (repeat' (first | apply And.intro | intro _)))
        all_goals (try (first | with_reducible refine wa_id ?_ | exact True.intro | exact whole_fn ⟨_, _, _⟩ _ _ (by omega) | omega | exact whole_fn i 8 [r] (by omega) | exact whole_fn i 4 [r] (by omega) | exact whole_fn i 7 [r] (by omega) | exact whole_fn i 1 [0] (by omega) | exact sameI_fn _ _ | exact below_fn _ _))
        refine WA_seq (x := (fcd Try.f6 [1, 1, 1, 1, 0])) (y := (fcd Try.f6 [1, 1, 1, 1, 1])) ?_
        refine V_regionX Γ Δ [50, 57, 64, 170] [0, 1, 2, 4, 5, 6, 7, 8, 9, 10, 11, 12, 13, 14, 31, 36, 45, 103, 108, 164, 166] (evs ?_)
        all_goals (try with_reducible (repeat' (first | apply And.intro | intro _)))
        all_goals (try (first | with_reducible refine wa_id ?_ | exact True.intro | exact whole_fn ⟨_, _, _⟩ _ _ (by omega) | omega | exact whole_fn i 8 [r] (by omega) | exact whole_fn i 4 [r] (by omega) | exact whole_fn i 7 [r] (by omega) | exact whole_fn i 1 [0] (by omega) | exact sameI_fn _ _ | exact below_fn _ _))
        refine WA_seq (x := (fcd Try.f6 [1, 1, 1, 1, 1, 0])) (y := (fcd Try.f6 [1, 1, 1, 1, 1, 1])) ?_
        refine V_regionX Γ Δ [50, 57, 64, 170] [0, 1, 2, 4, 5, 6, 7, 8, 9, 10, 11, 12, 13, 14, 31, 36, 45, 103, 108, 164, 166] (evs ?_)
        all_goals (try with_reducible (repeat' (first | apply And.intro | intro _)))
        all_goals (try (first | with_reducible refine wa_id ?_ | exact True.intro | exact whole_fn ⟨_, _, _⟩ _ _ (by omega) | omega | exact whole_fn i 8 [r] (by omega) | exact whole_fn i 4 [r] (by omega) | exact whole_fn i 7 [r] (by omega) | exact whole_fn i 1 [0] (by omega) | exact sameI_fn _ _ | exact below_fn _ _))
        refine WA_seq (x := (fcd Try.f6 [1, 1, 1, 1, 1, 1, 0])) (y := (fcd Try.f6 [1, 1, 1, 1, 1, 1, 1])) ?_
        refine WA_seq (x := (fcd Try.f6 [1, 1, 1, 1, 1, 1, 0, 0])) (y := (fcd Try.f6 [1, 1, 1, 1, 1, 1, 0, 1])) ?_
        refine V_regionX Γ Δ [50, 57, 64, 170] [0, 1, 2, 4, 5, 6, 7, 8, 9, 10, 11, 12, 13, 14, 31, 36, 45, 103, 108, 164, 166] (evs ?_)
        all_goals (try with_reducible (repeat' (first | apply And.intro | intro _)))
        all_goals (try (first | with_reducible refine wa_id ?_ | exact True.intro | omega | exact whole_fn i 8 [r] (by omega) | exact whole_fn i 4 [r] (by omega) | exact whole_fn i 7 [r] (by omega) | exact whole_fn i 1 [0] (by omega) | exact sameI_fn _ _ | exact below_fn _ _))
        simp only [ow8w.1, ow4w.1, ow7w.1, ow8w.2, ow4w.2, ow7w.2, bne_self_eq_false, Bool.or_self]
        refine V_cond (evs ?_)
        refine ⟨fun hc => hc.elim, ?_⟩
        refine WA_skip ?_
        refine WA_seq (x := (fcd Try.f6 [1, 1, 1, 1, 1, 1, 1, 0])) (y := (fcd Try.f6 [1, 1, 1, 1, 1, 1, 1, 1])) ?_
        refine WA_seq (x := (fcd Try.f6 [1, 1, 1, 1, 1, 1, 1, 0, 0])) (y := (fcd Try.f6 [1, 1, 1, 1, 1, 1, 1, 0, 1])) ?_
        refine V_regionX Γ Δ [50, 57, 64, 170] [0, 1, 2, 4, 5, 6, 7, 8, 9, 10, 11, 12, 13, 14, 31, 36, 45, 103, 108, 164, 166] (evs ?_)
        all_goals (try with_reducible (repeat' (first | apply And.intro | intro _)))
        all_goals (try (first | with_reducible refine wa_id ?_ | exact True.intro | omega | exact whole_fn i 8 [r] (by omega) | exact whole_fn i 4 [r] (by omega) | exact whole_fn i 7 [r] (by omega) | exact whole_fn i 1 [0] (by omega) | exact sameI_fn _ _ | exact below_fn _ _))
        refine WA_block (c := (fcd Try.f6 [1, 1, 1, 1, 1, 1, 1, 0, 1, 0])) ?_
        refine V_loop (c := (fcd Try.f6 [1, 1, 1, 1, 1, 1, 1, 0, 1, 0, 0])) (α := Nat) [4, 12, 108, 164] [22100, 22101, 22102, 22103, 23400, 23401, 23402, 23403, 24800, 24801, 24802, 24803, 26200, 26201, 26202, 26203] (fun j => [(12, .dat (.i (j : Int)))]) (fun j => []) (fun j => j ≤ i.p.length) (fun j => i.p.length - j) 0 [] ?_ (evs ?_) ?_
        · exact Nat.zero_le _
        · (try with_reducible (repeat' (first | apply And.intro | intro _)))
          all_goals (first | exact True.intro | omega | (first | rfl))
        · intro j hJ
          refine WA_seq (x := (fcd Try.f6 [1, 1, 1, 1, 1, 1, 1, 0, 1, 0, 0, 0])) (y := (fcd Try.f6 [1, 1, 1, 1, 1, 1, 1, 0, 1, 0, 0, 1])) ?_
          refine WA_seq (x := (fcd Try.f6 [1, 1, 1, 1, 1, 1, 1, 0, 1, 0, 0, 0, 0])) (y := (fcd Try.f6 [1, 1, 1, 1, 1, 1, 1, 0, 1, 0, 0, 0, 1])) ?_
          refine V_regionX Γ Δ [50, 57, 64, 170] [0, 1, 2, 4, 5, 6, 7, 8, 9, 10, 11, 12, 13, 14, 31, 36, 45, 103, 108, 164, 166] (evs ?_)
          all_goals (try with_reducible (repeat' (first | apply And.intro | intro _)))
          all_goals (try (first | with_reducible refine wa_id ?_ | exact True.intro | omega | exact whole_fn i 8 [r] (by omega) | exact whole_fn i 4 [r] (by omega) | exact whole_fn i 7 [r] (by omega) | exact whole_fn i 1 [0] (by omega) | exact sameI_fn _ _ | exact below_fn _ _))
          refine V_cond (evs ?_)
          refine ⟨fun hc => ?_, fun hc => ?_⟩
          · refine WA_skip ?_
            refine WA_seq (x := (fcd Try.f6 [1, 1, 1, 1, 1, 1, 1, 0, 1, 0, 0, 1, 0])) (y := (fcd Try.f6 [1, 1, 1, 1, 1, 1, 1, 0, 1, 0, 0, 1, 1])) ?_
            refine WA_block (c := (fcd Try.f6 [1, 1, 1, 1, 1, 1, 1, 0, 1, 0, 0, 1, 0, 0])) ?_
            refine WA_seq (x := (fcd Try.f6 [1, 1, 1, 1, 1, 1, 1, 0, 1, 0, 0, 1, 0, 0, 0])) (y := (fcd Try.f6 [1, 1, 1, 1, 1, 1, 1, 0, 1, 0, 0, 1, 0, 0, 1])) ?_
            refine V_draw Γ [50, 57, 64, 170] [0, 1, 2, 4, 5, 6, 7, 8, 9, 10, 11, 12, 13, 14, 31, 36, 45, 103, 108, 164, 166] mixed (by kernel_rfl) (evs ?_)
            all_goals (try with_reducible (repeat' (first | apply And.intro | intro _)))
            all_goals (try (first | with_reducible refine wa_id ?_ | exact True.intro | exact below_fn ⟨_, _, _, _⟩ ⟨_, _, _, _⟩ | omega | exact whole_fn i 8 [r] (by omega) | exact whole_fn i 4 [r] (by omega) | exact whole_fn i 7 [r] (by omega) | exact whole_fn i 1 [0] (by omega) | exact sameI_fn _ _ | exact below_fn _ _))
            have hjj : j < i.p.length := by omega
            have ho := ord4 (ok_of hi hr hA hjj) hjj
            simp only [ho.1, ho.2.1, ho.2.2.1, ho.2.2.2, Bool.not_true, Bool.or_self]
            refine V_cond (evs ?_)
            refine ⟨fun hc => hc.elim, ?_⟩
            refine WA_skip ?_
            refine V_regionX Γ Δ [50, 57, 64, 170] [0, 1, 2, 4, 5, 6, 7, 8, 9, 10, 11, 12, 13, 14, 31, 36, 45, 103, 108, 164, 166] (evs ?_)
            all_goals (try with_reducible (repeat' (first | apply And.intro | intro _)))
            all_goals (try (first | with_reducible refine wa_id ?_ | exact True.intro | omega | exact whole_fn i 8 [r] (by omega) | exact whole_fn i 4 [r] (by omega) | exact whole_fn i 7 [r] (by omega) | exact whole_fn i 1 [0] (by omega) | exact sameI_fn _ _ | exact below_fn _ _))
            refine V_next [] (j + 1) (evs ?_) ?_ ?_
            all_goals (try with_reducible (repeat' (first | apply And.intro | intro _)))
            all_goals (first | exact True.intro | omega | (first | exact w64l ‹(j : Int) < _› ‹i.p.length ≤ 281474976710656›))
          · refine V_exit (evs ?_)
            refine WA_seq (x := (fcd Try.f6 [1, 1, 1, 1, 1, 1, 1, 1, 0])) (y := (fcd Try.f6 [1, 1, 1, 1, 1, 1, 1, 1, 1])) ?_
            refine WA_seq (x := (fcd Try.f6 [1, 1, 1, 1, 1, 1, 1, 1, 0, 0])) (y := (fcd Try.f6 [1, 1, 1, 1, 1, 1, 1, 1, 0, 1])) ?_
            refine V_regionX Γ Δ [50, 57, 64, 170] [0, 1, 2, 4, 5, 6, 7, 8, 9, 10, 11, 12, 13, 14, 31, 36, 45, 103, 108, 164, 166] (evs ?_)
            all_goals (try with_reducible (repeat' (first | apply And.intro | intro _)))
            all_goals (try (first | with_reducible refine wa_id ?_ | exact True.intro | omega | exact whole_fn i 8 [r] (by omega) | exact whole_fn i 4 [r] (by omega) | exact whole_fn i 7 [r] (by omega) | exact whole_fn i 1 [0] (by omega) | exact sameI_fn _ _ | exact below_fn _ _))
            refine V_cond (evs ?_)
            refine ⟨fun hc => ?_, fun hc => ?_⟩
            · refine WA_seq (x := (fcd Try.f6 [1, 1, 1, 1, 1, 1, 1, 1, 0, 1, 0, 0])) (y := (fcd Try.f6 [1, 1, 1, 1, 1, 1, 1, 1, 0, 1, 0, 1])) ?_
              refine V_regionX Γ Δ [50, 57, 64, 170] [0, 1, 2, 4, 5, 6, 7, 8, 9, 10, 11, 12, 13, 14, 31, 36, 45, 103, 108, 164, 166] (evs ?_)
              all_goals (try with_reducible (repeat' (first | apply And.intro | intro _)))
              all_goals (try (first | with_reducible refine wa_id ?_ | exact True.intro | exact whole_fn ⟨_, _, _⟩ _ _ (by omega) | omega | exact whole_fn i 8 [r] (by omega) | exact whole_fn i 4 [r] (by omega) | exact whole_fn i 7 [r] (by omega) | exact whole_fn i 1 [0] (by omega) | exact sameI_fn _ _ | exact below_fn _ _))
              have ew1w := (oE (k := 1) (r := 0) hi (by omega) (by omega)).1
              simp only [ew1w, beq_self_eq_true]
              refine WA_seq (x := (fcd Try.f6 [1, 1, 1, 1, 1, 1, 1, 1, 0, 1, 0, 1, 0])) (y := (fcd Try.f6 [1, 1, 1, 1, 1, 1, 1, 1, 0, 1, 0, 1, 1])) ?_
              refine V_regionX Γ Δ [50, 57, 64, 170] [0, 1, 2, 4, 5, 6, 7, 8, 9, 10, 11, 12, 13, 14, 31, 36, 45, 103, 108, 164, 166] (evs ?_)
              all_goals (try with_reducible (repeat' (first | apply And.intro | intro _)))
              all_goals (try (first | with_reducible refine wa_id ?_ | exact True.intro | exact sameI_fn ⟨_, _, _⟩ ⟨_, _, _⟩ | exact example_fn | omega | exact whole_fn i 8 [r] (by omega) | exact whole_fn i 4 [r] (by omega) | exact whole_fn i 7 [r] (by omega) | exact whole_fn i 1 [0] (by omega) | exact sameI_fn _ _ | exact below_fn _ _))
              subst r
              simp only [oS (k := 8) hi hA (by omega), oS (k := 4) hi hA (by omega), oS (k := 7) hi hA (by omega), oS (k := 1) hi hA (by omega), Bool.and_self]
              refine V_ret (evs ?_)
              first | rfl | (simp; done)
            · refine WA_skip ?_
              refine WA_seq (x := (fcd Try.f6 [1, 1, 1, 1, 1, 1, 1, 1, 1, 0])) (y := (fcd Try.f6 [1, 1, 1, 1, 1, 1, 1, 1, 1, 1])) ?_
              refine V_regionX Γ Δ [50, 57, 64, 170] [0, 1, 2, 4, 5, 6, 7, 8, 9, 10, 11, 12, 13, 14, 31, 36, 45, 103, 108, 164, 166] (evs ?_)
              all_goals (try with_reducible (repeat' (first | apply And.intro | intro _)))
              all_goals (try (first | with_reducible refine wa_id ?_ | exact True.intro | exact example_fn | omega | exact whole_fn i 8 [r] (by omega) | exact whole_fn i 4 [r] (by omega) | exact whole_fn i 7 [r] (by omega) | exact whole_fn i 1 [0] (by omega) | exact sameI_fn _ _ | exact below_fn _ _))
              refine V_ret (evs ?_)
              first | rfl | (simp; done)

end Go.S16

