import Derived.Test.YtdillkdhpalgcaaGreatLJ
import Derived.Test.YtdillkdhpalgcaaGreatG4
import Derived.Test.YtdillkdhpalgcaaGreatG6
set_option linter.unusedSimpArgs false
set_option linter.unusedVariables false
set_option linter.unusedSimpArgs false
set_option linter.unusedVariables false
namespace Go.S16
open Go.RowKit Go.Proofs Go.Eng Go.Rect
set_option maxHeartbeats 4000000 in
set_option maxRecDepth 100000 in
theorem rresult_fn (i : Im) (o : Pt) (bd : Rc) (k : Int) (ps : List Int) (x y : Int) (hf : fchkE k ps = 0) (hv : FlH ⟨i, o, bd, k, ps, ps.getD 0 0⟩ (wtL k (ps.getD 0 0)) x y) : Eng.Fn Tryz.prog 18 [rvD i o bd, .i x, .i y, .i k, .sl 1 (ps.map iC)] (.dat (pxD (filF ⟨i, o, bd, k, ps, ps.getD 0 0⟩ (wtL k (ps.getD 0 0)) x y))) := by
  have hg := fk_rg hf
  have vi0 := fl_c hv
  have vi : VIn ⟨i, o, bd, 0, [], 0⟩ x y := vi0
  refine Eng.Fn.by (fn := Tryz.f18) 194 [.cell 10 49] Tryz.func18 rfl Tryz.ntmps18 rfl (by simp) fun w0 G0 => ?_
  refine WA_seq (x := (fcd Tryz.f18 [0])) (y := (fcd Tryz.f18 [1])) ?_
  refine V_regionX Γ Δ [] [0, 1, 2, 3, 4, 5, 10, 11, 12, 13, 14, 19, 20, 30, 40, 44, 89, 110, 122, 145, 166, 175] (evs ?_)
  all_goals (try with_reducible (repeat' (first | apply And.intro | intro _)))
  all_goals (try (first | with_reducible refine wa_id ?_ | exact True.intro | omega))
  refine WA_seq (x := (fcd Tryz.f18 [1, 0])) (y := (fcd Tryz.f18 [1, 1])) ?_
  refine V_regionX Γ Δ [] [0, 1, 2, 3, 4, 5, 10, 11, 12, 13, 14, 19, 20, 30, 40, 44, 89, 110, 122, 145, 166, 175] (evs ?_)
  all_goals (try with_reducible (repeat' (first | apply And.intro | intro _)))
  all_goals (try (first | with_reducible refine wa_id ?_ | exact True.intro | exact rpixel_fn ⟨_, _, _⟩ ⟨_, _⟩ ⟨_, _, _, _⟩ _ _ (by assumption) | omega))
  refine WA_seq (x := (fcd Tryz.f18 [1, 1, 0])) (y := (fcd Tryz.f18 [1, 1, 1])) ?_
  refine WA_seq (x := (fcd Tryz.f18 [1, 1, 0, 0])) (y := (fcd Tryz.f18 [1, 1, 0, 1])) ?_
  refine V_regionX Γ Δ [] [0, 1, 2, 3, 4, 5, 10, 11, 12, 13, 14, 19, 20, 30, 40, 44, 89, 110, 122, 145, 166, 175] (evs ?_)
  all_goals (try with_reducible (repeat' (first | apply And.intro | intro _)))
  all_goals (try (first | with_reducible refine wa_id ?_ | exact True.intro | omega))
  refine WA_block (c := (fcd Tryz.f18 [1, 1, 0, 1, 0])) ?_
  refine WA_seq (x := (fcd Tryz.f18 [1, 1, 0, 1, 0, 0])) (y := (fcd Tryz.f18 [1, 1, 0, 1, 0, 1])) ?_
  refine V_regionX Γ Δ [] [0, 1, 2, 3, 4, 5, 10, 11, 12, 13, 14, 19, 20, 30, 40, 44, 89, 110, 122, 145, 166, 175] (evs ?_)
  all_goals (try with_reducible (repeat' (first | apply And.intro | intro _)))
  all_goals (try (first | with_reducible refine wa_id ?_ | exact True.intro | omega))
  refine V_cond (evs ?_)
  refine ⟨fun hc => ?_, fun hc => ?_⟩
  · refine WA_seq (x := (fcd Tryz.f18 [1, 1, 0, 1, 0, 1, 0, 0])) (y := (fcd Tryz.f18 [1, 1, 0, 1, 0, 1, 0, 1])) ?_
    refine V_draw Γ [] [0, 1, 2, 3, 4, 5, 10, 11, 12, 13, 14, 19, 20, 30, 40, 44, 89, 110, 122, 145, 166, 175] mixed (by kernel_rfl) (evs ?_)
    have g4 := hg.2.2.2.1 (by omega) (by omega)
    subst hc
    have sq : SqH ⟨i, o, bd, 0, [], ps.getD 0 0⟩ (wtL (bif false then 2 else 1) (ps.getD 0 0)) x y := hv.1 (.inl rfl)
    have so := sm_a sq
    have hF := rf1 (i := i) (o := o) (bd := bd) (ps := ps) (wt := wtL 1 (ps.getD 0 0)) (x := x) (y := y) (k := 1) (.inl rfl)
    all_goals (try with_reducible (repeat' (first | apply And.intro | intro _)))
    all_goals (try (first | with_reducible refine wa_id ?_ | exact True.intro | exact rsquare_fn ⟨_, _, _⟩ ⟨_, _⟩ ⟨_, _, _, _⟩ _ _ _ _ (by assumption) (by assumption) | exact rmean_fn ⟨_, _, _, _, _⟩ (by assumption) | omega | exact rsquare_fn _ _ _ _ _ _ false sq (fun h => by cases h) | exact rsquare_fn _ _ _ _ _ _ true sq h7 | exact rmean_fn _ so | exact rsharp_fn _ _ _ _ sa am vb.1 so2.2.2.2.2.1 | exact rsharp_fn _ _ _ _ sa am vb.2.1 so2.2.2.2.2.2.1 | exact rsharp_fn _ _ _ _ sa am vb.2.2.1 so2.2.2.2.2.2.2 | exact rrank_fn _ _ _ _ _ _ _ wn (by omega) | exact redge_fn _ _ _ _ _ ed | exact rmotion_fn _ _ _ _ _ _ _ hm2 | exact rblock_fn _ _ _ _ _ _ hp2))
    refine V_ret (evs ?_)
    exact pe hF
  · refine WA_seq (x := (fcd Tryz.f18 [1, 1, 0, 1, 0, 1, 1, 0])) (y := (fcd Tryz.f18 [1, 1, 0, 1, 0, 1, 1, 1])) ?_
    refine V_regionX Γ Δ [] [0, 1, 2, 3, 4, 5, 10, 11, 12, 13, 14, 19, 20, 30, 40, 44, 89, 110, 122, 145, 166, 175] (evs ?_)
    all_goals (try with_reducible (repeat' (first | apply And.intro | intro _)))
    all_goals (try (first | with_reducible refine wa_id ?_ | exact True.intro | omega))
    refine V_cond (evs ?_)
    refine ⟨fun hc => ?_, fun hc => ?_⟩
    · refine WA_seq (x := (fcd Tryz.f18 [1, 1, 0, 1, 0, 1, 1, 1, 0, 0])) (y := (fcd Tryz.f18 [1, 1, 0, 1, 0, 1, 1, 1, 0, 1])) ?_
      refine V_draw Γ [] [0, 1, 2, 3, 4, 5, 10, 11, 12, 13, 14, 19, 20, 30, 40, 44, 89, 110, 122, 145, 166, 175] mixed (by kernel_rfl) (evs ?_)
      have g4 := hg.2.2.2.1 (by omega) (by omega)
      subst hc
      have sq : SqH ⟨i, o, bd, 0, [], ps.getD 0 0⟩ (wtL (bif true then 2 else 1) (ps.getD 0 0)) x y := hv.1 (.inr (.inl rfl))
      have so := sm_a sq
      have h7 : true = true → ps.getD 0 0 ≤ 7 := fun _ => g4.2.2.2.2.1 rfl
      have hF := rf1 (i := i) (o := o) (bd := bd) (ps := ps) (wt := wtL 2 (ps.getD 0 0)) (x := x) (y := y) (k := 2) (.inr rfl)
      all_goals (try with_reducible (repeat' (first | apply And.intro | intro _)))
      all_goals (try (first | with_reducible refine wa_id ?_ | exact True.intro | exact rsquare_fn ⟨_, _, _⟩ ⟨_, _⟩ ⟨_, _, _, _⟩ _ _ _ _ (by assumption) (by assumption) | exact rmean_fn ⟨_, _, _, _, _⟩ (by assumption) | omega | exact rsquare_fn _ _ _ _ _ _ false sq (fun h => by cases h) | exact rsquare_fn _ _ _ _ _ _ true sq h7 | exact rmean_fn _ so | exact rsharp_fn _ _ _ _ sa am vb.1 so2.2.2.2.2.1 | exact rsharp_fn _ _ _ _ sa am vb.2.1 so2.2.2.2.2.2.1 | exact rsharp_fn _ _ _ _ sa am vb.2.2.1 so2.2.2.2.2.2.2 | exact rrank_fn _ _ _ _ _ _ _ wn (by omega) | exact redge_fn _ _ _ _ _ ed | exact rmotion_fn _ _ _ _ _ _ _ hm2 | exact rblock_fn _ _ _ _ _ _ hp2))
      refine V_ret (evs ?_)
      exact pe hF
    · refine WA_seq (x := (fcd Tryz.f18 [1, 1, 0, 1, 0, 1, 1, 1, 1, 0])) (y := (fcd Tryz.f18 [1, 1, 0, 1, 0, 1, 1, 1, 1, 1])) ?_
      refine V_regionX Γ Δ [] [0, 1, 2, 3, 4, 5, 10, 11, 12, 13, 14, 19, 20, 30, 40, 44, 89, 110, 122, 145, 166, 175] (evs ?_)
      all_goals (try with_reducible (repeat' (first | apply And.intro | intro _)))
      all_goals (try (first | with_reducible refine wa_id ?_ | exact True.intro | omega))
      refine V_cond (evs ?_)
      refine ⟨fun hc => ?_, fun hc => ?_⟩
      · refine WA_seq (x := (fcd Tryz.f18 [1, 1, 0, 1, 0, 1, 1, 1, 1, 1, 0, 0])) (y := (fcd Tryz.f18 [1, 1, 0, 1, 0, 1, 1, 1, 1, 1, 0, 1])) ?_
        refine WA_seq (x := (fcd Tryz.f18 [1, 1, 0, 1, 0, 1, 1, 1, 1, 1, 0, 0, 0])) (y := (fcd Tryz.f18 [1, 1, 0, 1, 0, 1, 1, 1, 1, 1, 0, 0, 1])) ?_
        refine V_regionX Γ Δ [] [0, 1, 2, 3, 4, 5, 10, 11, 12, 13, 14, 19, 20, 30, 40, 44, 89, 110, 122, 145, 166, 175] (evs ?_)
        all_goals (try with_reducible (repeat' (first | apply And.intro | intro _)))
        all_goals (try (first | with_reducible refine wa_id ?_ | exact True.intro | omega))
        refine V_cond (evs ?_)
        refine ⟨fun hc => ?_, fun hc => ?_⟩
        · refine WA_seq (x := (fcd Tryz.f18 [1, 1, 0, 1, 0, 1, 1, 1, 1, 1, 0, 0, 1, 0, 0])) (y := (fcd Tryz.f18 [1, 1, 0, 1, 0, 1, 1, 1, 1, 1, 0, 0, 1, 0, 1])) ?_
          refine V_regionX Γ Δ [] [0, 1, 2, 3, 4, 5, 10, 11, 12, 13, 14, 19, 20, 30, 40, 44, 89, 110, 122, 145, 166, 175] (evs ?_)
          all_goals (try with_reducible (repeat' (first | apply And.intro | intro _)))
          all_goals (try (first | with_reducible refine wa_id ?_ | exact True.intro | omega))
          refine V_ret (evs ?_)
          first | exact True.intro | exact pe hF | (have hz0 := hc; have hk3 := ‹k = 3›; subst hk3; exact pe (p := zP) (rf3a hz0))
        · refine WA_skip ?_
          refine WA_seq (x := (fcd Tryz.f18 [1, 1, 0, 1, 0, 1, 1, 1, 1, 1, 0, 1, 0])) (y := (fcd Tryz.f18 [1, 1, 0, 1, 0, 1, 1, 1, 1, 1, 0, 1, 1])) ?_
          refine V_draw Γ [] [0, 1, 2, 3, 4, 5, 10, 11, 12, 13, 14, 19, 20, 30, 40, 44, 89, 110, 122, 145, 166, 175] mixed (by kernel_rfl) (evs ?_)
          have g5 := hg.2.2.2.2 ‹_›
          have g4 := hg.2.2.2.1 (by omega) (by omega)
          have hk3 := ‹k = 3›
          subst hk3
          have sq : SqH ⟨i, o, bd, 0, [], ps.getD 0 0⟩ (wtL (bif false then 2 else 1) (ps.getD 0 0)) x y := hv.1 (.inr (.inr rfl))
          have so := sm_a sq
          all_goals (try with_reducible (repeat' (first | apply And.intro | intro _)))
          all_goals (try (first | with_reducible refine wa_id ?_ | exact True.intro | exact rsquare_fn ⟨_, _, _⟩ ⟨_, _⟩ ⟨_, _, _, _⟩ _ _ _ _ (by assumption) (by assumption) | omega | exact rsquare_fn _ _ _ _ _ _ false sq (fun h => by cases h) | exact rsquare_fn _ _ _ _ _ _ true sq h7 | exact rmean_fn _ so | exact rsharp_fn _ _ _ _ sa am vb.1 so2.2.2.2.2.1 | exact rsharp_fn _ _ _ _ sa am vb.2.1 so2.2.2.2.2.2.1 | exact rsharp_fn _ _ _ _ sa am vb.2.2.1 so2.2.2.2.2.2.2 | exact rrank_fn _ _ _ _ _ _ _ wn (by omega) | exact redge_fn _ _ _ _ _ ed | exact rmotion_fn _ _ _ _ _ _ _ hm2 | exact rblock_fn _ _ _ _ _ _ hp2))
          refine WA_seq (x := (fcd Tryz.f18 [1, 1, 0, 1, 0, 1, 1, 1, 1, 1, 0, 1, 1, 0])) (y := (fcd Tryz.f18 [1, 1, 0, 1, 0, 1, 1, 1, 1, 1, 0, 1, 1, 1])) ?_
          refine V_draw Γ [] [0, 1, 2, 3, 4, 5, 10, 11, 12, 13, 14, 19, 20, 30, 40, 44, 89, 110, 122, 145, 166, 175] mixed (by kernel_rfl) (evs ?_)
          have vb := vP_bd (pix_ok vi)
          have so2 := so
          unfold SmOk at so2
          have sa : 0 ≤ (sqS ⟨i, o, bd, 0, [], ps.getD 0 0⟩ (wtL 1 (ps.getD 0 0)) x y).a ∧ (sqS ⟨i, o, bd, 0, [], ps.getD 0 0⟩ (wtL 1 (ps.getD 0 0)) x y).a ≤ 17592186044416 := ⟨so2.2.2.1, Int.le_trans so2.2.2.2.1 (by omega)⟩
          have am : 0 ≤ ps.getD 1 0 ∧ ps.getD 1 0 ≤ 262140 := g5.2
          have hF := rf3b (i := i) (o := o) (bd := bd) (ps := ps) (x := x) (y := y)  ‹_›
          all_goals (try with_reducible (repeat' (first | apply And.intro | intro _)))
          all_goals (try (first | with_reducible refine wa_id ?_ | exact True.intro | exact rsharp_fn _ _ _ _ (by assumption) (by assumption) (by assumption) (by assumption) | omega | exact rsquare_fn _ _ _ _ _ _ false sq (fun h => by cases h) | exact rsquare_fn _ _ _ _ _ _ true sq h7 | exact rmean_fn _ so | exact rsharp_fn _ _ _ _ sa am vb.1 so2.2.2.2.2.1 | exact rsharp_fn _ _ _ _ sa am vb.2.1 so2.2.2.2.2.2.1 | exact rsharp_fn _ _ _ _ sa am vb.2.2.1 so2.2.2.2.2.2.2 | exact rrank_fn _ _ _ _ _ _ _ wn (by omega) | exact redge_fn _ _ _ _ _ ed | exact rmotion_fn _ _ _ _ _ _ _ hm2 | exact rblock_fn _ _ _ _ _ _ hp2))
          skip
          refine V_ret (evs ?_)
          exact pe hF
      · refine WA_seq (x := (fcd Tryz.f18 [1, 1, 0, 1, 0, 1, 1, 1, 1, 1, 1, 0])) (y := (fcd Tryz.f18 [1, 1, 0, 1, 0, 1, 1, 1, 1, 1, 1, 1])) ?_
        refine V_regionX Γ Δ [] [0, 1, 2, 3, 4, 5, 10, 11, 12, 13, 14, 19, 20, 30, 40, 44, 89, 110, 122, 145, 166, 175] (evs ?_)
        all_goals (try with_reducible (repeat' (first | apply And.intro | intro _)))
        all_goals (try (first | with_reducible refine wa_id ?_ | exact True.intro | omega))
        refine V_cond (evs ?_)
        refine ⟨fun hc => ?_, fun hc => ?_⟩
        · refine WA_seq (x := (fcd Tryz.f18 [1, 1, 0, 1, 0, 1, 1, 1, 1, 1, 1, 1, 0, 0])) (y := (fcd Tryz.f18 [1, 1, 0, 1, 0, 1, 1, 1, 1, 1, 1, 1, 0, 1])) ?_
          refine V_draw Γ [] [0, 1, 2, 3, 4, 5, 10, 11, 12, 13, 14, 19, 20, 30, 40, 44, 89, 110, 122, 145, 166, 175] mixed (by kernel_rfl) (evs ?_)
          have g4 := hg.2.2.2.1 (by omega) (by omega)
          subst hc
          have rk := hv.2.1 (by simp)
          have wn : WnH ⟨i, o, bd, 0, [], ps.getD 0 0⟩ x y := ⟨rk.2.1, rk.2.2.1, rk.2.2.2⟩
          have rr := rk.2.1
          simp only at rr
          have rq := rk_sq (r := ps.getD 0 0) (by omega) (by omega)
          have rq1 := rk_pos (r := ps.getD 0 0) rr.1
          
          have hF := rf4 (i := i) (o := o) (bd := bd) (ps := ps) (wt := wtL 4 (ps.getD 0 0)) (x := x) (y := y)  rr.1
          (try simp (maxSteps := 10000000) (disch := omega) only [w64])
          (try simp (maxSteps := 10000000) (disch := omega) only [w64, Int.tdiv_eq_ediv_of_nonneg])
          all_goals (try with_reducible (repeat' (first | apply And.intro | intro _)))
          all_goals (try (first | with_reducible refine wa_id ?_ | exact True.intro | exact rrank_fn ⟨_, _, _⟩ ⟨_, _⟩ ⟨_, _, _, _⟩ _ _ _ _ (by assumption) (by assumption) | omega | exact rsquare_fn _ _ _ _ _ _ false sq (fun h => by cases h) | exact rsquare_fn _ _ _ _ _ _ true sq h7 | exact rmean_fn _ so | exact rsharp_fn _ _ _ _ sa am vb.1 so2.2.2.2.2.1 | exact rsharp_fn _ _ _ _ sa am vb.2.1 so2.2.2.2.2.2.1 | exact rsharp_fn _ _ _ _ sa am vb.2.2.1 so2.2.2.2.2.2.2 | exact rrank_fn _ _ _ _ _ _ _ wn (by omega) | exact redge_fn _ _ _ _ _ ed | exact rmotion_fn _ _ _ _ _ _ _ hm2 | exact rblock_fn _ _ _ _ _ _ hp2))
          refine V_ret (evs ?_)
          exact pe hF
        · refine WA_seq (x := (fcd Tryz.f18 [1, 1, 0, 1, 0, 1, 1, 1, 1, 1, 1, 1, 1, 0])) (y := (fcd Tryz.f18 [1, 1, 0, 1, 0, 1, 1, 1, 1, 1, 1, 1, 1, 1])) ?_
          refine V_regionX Γ Δ [] [0, 1, 2, 3, 4, 5, 10, 11, 12, 13, 14, 19, 20, 30, 40, 44, 89, 110, 122, 145, 166, 175] (evs ?_)
          all_goals (try with_reducible (repeat' (first | apply And.intro | intro _)))
          all_goals (try (first | with_reducible refine wa_id ?_ | exact True.intro | omega))
          refine V_cond (evs ?_)
          refine ⟨fun hc => ?_, fun hc => ?_⟩
          · refine WA_seq (x := (fcd Tryz.f18 [1, 1, 0, 1, 0, 1, 1, 1, 1, 1, 1, 1, 1, 1, 0, 0])) (y := (fcd Tryz.f18 [1, 1, 0, 1, 0, 1, 1, 1, 1, 1, 1, 1, 1, 1, 0, 1])) ?_
            refine V_regionX Γ Δ [] [0, 1, 2, 3, 4, 5, 10, 11, 12, 13, 14, 19, 20, 30, 40, 44, 89, 110, 122, 145, 166, 175] (evs ?_)
            have he := hv.2.2.1 (.inl hc)
            have ed : EdH ⟨i, o, bd, 0, [], 0⟩ x y := ⟨he.1, he.2⟩
            subst hc
            have hF := rf5 (i := i) (o := o) (bd := bd) (ps := ps) (wt := wtL 5 (ps.getD 0 0)) (x := x) (y := y) 
            all_goals (try with_reducible (repeat' (first | apply And.intro | intro _)))
            all_goals (try (first | with_reducible refine wa_id ?_ | exact True.intro | exact redge_fn ⟨_, _, _⟩ ⟨_, _⟩ ⟨_, _, _, _⟩ _ _ (by assumption) | omega | exact rsquare_fn _ _ _ _ _ _ false sq (fun h => by cases h) | exact rsquare_fn _ _ _ _ _ _ true sq h7 | exact rmean_fn _ so | exact rsharp_fn _ _ _ _ sa am vb.1 so2.2.2.2.2.1 | exact rsharp_fn _ _ _ _ sa am vb.2.1 so2.2.2.2.2.2.1 | exact rsharp_fn _ _ _ _ sa am vb.2.2.1 so2.2.2.2.2.2.2 | exact rrank_fn _ _ _ _ _ _ _ wn (by omega) | exact redge_fn _ _ _ _ _ ed | exact rmotion_fn _ _ _ _ _ _ _ hm2 | exact rblock_fn _ _ _ _ _ _ hp2))
            refine WA_seq (x := (fcd Tryz.f18 [1, 1, 0, 1, 0, 1, 1, 1, 1, 1, 1, 1, 1, 1, 0, 1, 0])) (y := (fcd Tryz.f18 [1, 1, 0, 1, 0, 1, 1, 1, 1, 1, 1, 1, 1, 1, 0, 1, 1])) ?_
            refine V_regionX Γ Δ [] [0, 1, 2, 3, 4, 5, 10, 11, 12, 13, 14, 19, 20, 30, 40, 44, 89, 110, 122, 145, 166, 175] (evs ?_)
            all_goals (try with_reducible (repeat' (first | apply And.intro | intro _)))
            all_goals (try (first | with_reducible refine wa_id ?_ | exact True.intro | omega))
            refine V_ret (evs ?_)
            exact pe hF
          · refine WA_seq (x := (fcd Tryz.f18 [1, 1, 0, 1, 0, 1, 1, 1, 1, 1, 1, 1, 1, 1, 1, 0])) (y := (fcd Tryz.f18 [1, 1, 0, 1, 0, 1, 1, 1, 1, 1, 1, 1, 1, 1, 1, 1])) ?_
            refine V_regionX Γ Δ [] [0, 1, 2, 3, 4, 5, 10, 11, 12, 13, 14, 19, 20, 30, 40, 44, 89, 110, 122, 145, 166, 175] (evs ?_)
            all_goals (try with_reducible (repeat' (first | apply And.intro | intro _)))
            all_goals (try (first | with_reducible refine wa_id ?_ | exact True.intro | omega))
            refine V_cond (evs ?_)
            refine ⟨fun hc => ?_, fun hc => ?_⟩
            · refine WA_seq (x := (fcd Tryz.f18 [1, 1, 0, 1, 0, 1, 1, 1, 1, 1, 1, 1, 1, 1, 1, 1, 0, 0])) (y := (fcd Tryz.f18 [1, 1, 0, 1, 0, 1, 1, 1, 1, 1, 1, 1, 1, 1, 1, 1, 0, 1])) ?_
              refine V_draw Γ [] [0, 1, 2, 3, 4, 5, 10, 11, 12, 13, 14, 19, 20, 30, 40, 44, 89, 110, 122, 145, 166, 175] mixed (by kernel_rfl) (evs ?_)
              have he := hv.2.2.1 (.inr hc)
              have ed : EdH ⟨i, o, bd, 0, [], 0⟩ x y := ⟨he.1, he.2⟩
              obtain ⟨e1, e2, e3, e4w, e5, e6, e7, e8, e9⟩ := ed_in ed
              have hx := he.1
              subst hc
              have lb1 := lumF_bd ⟨i, o, bd, 0, [], 0⟩ (x + 1) (y + 1)
              have lb2 := lumF_bd ⟨i, o, bd, 0, [], 0⟩ (x - 1) (y - 1)
              have hF := rf6 (i := i) (o := o) (bd := bd) (ps := ps) (wt := wtL 6 (ps.getD 0 0)) (x := x) (y := y) 
              (try simp (maxSteps := 10000000) (disch := omega) only [w64])
              all_goals (try with_reducible (repeat' (first | apply And.intro | intro _)))
              all_goals (try (first | with_reducible refine wa_id ?_ | exact True.intro | exact rvluma_fn ⟨_, _, _⟩ ⟨_, _⟩ ⟨_, _, _, _⟩ _ _ (by assumption) | exact runit_fn _ | omega | exact rsquare_fn _ _ _ _ _ _ false sq (fun h => by cases h) | exact rsquare_fn _ _ _ _ _ _ true sq h7 | exact rmean_fn _ so | exact rsharp_fn _ _ _ _ sa am vb.1 so2.2.2.2.2.1 | exact rsharp_fn _ _ _ _ sa am vb.2.1 so2.2.2.2.2.2.1 | exact rsharp_fn _ _ _ _ sa am vb.2.2.1 so2.2.2.2.2.2.2 | exact rrank_fn _ _ _ _ _ _ _ wn (by omega) | exact redge_fn _ _ _ _ _ ed | exact rmotion_fn _ _ _ _ _ _ _ hm2 | exact rblock_fn _ _ _ _ _ _ hp2))
              refine WA_seq (x := (fcd Tryz.f18 [1, 1, 0, 1, 0, 1, 1, 1, 1, 1, 1, 1, 1, 1, 1, 1, 0, 1, 0])) (y := (fcd Tryz.f18 [1, 1, 0, 1, 0, 1, 1, 1, 1, 1, 1, 1, 1, 1, 1, 1, 0, 1, 1])) ?_
              refine V_regionX Γ Δ [] [0, 1, 2, 3, 4, 5, 10, 11, 12, 13, 14, 19, 20, 30, 40, 44, 89, 110, 122, 145, 166, 175] (evs ?_)
              all_goals (try with_reducible (repeat' (first | apply And.intro | intro _)))
              all_goals (try (first | with_reducible refine wa_id ?_ | exact True.intro | omega))
              refine V_ret (evs ?_)
              exact pe hF
            · refine WA_seq (x := (fcd Tryz.f18 [1, 1, 0, 1, 0, 1, 1, 1, 1, 1, 1, 1, 1, 1, 1, 1, 1, 0])) (y := (fcd Tryz.f18 [1, 1, 0, 1, 0, 1, 1, 1, 1, 1, 1, 1, 1, 1, 1, 1, 1, 1])) ?_
              refine V_regionX Γ Δ [] [0, 1, 2, 3, 4, 5, 10, 11, 12, 13, 14, 19, 20, 30, 40, 44, 89, 110, 122, 145, 166, 175] (evs ?_)
              all_goals (try with_reducible (repeat' (first | apply And.intro | intro _)))
              all_goals (try (first | with_reducible refine wa_id ?_ | exact True.intro | omega))
              refine V_cond (evs ?_)
              refine ⟨fun hc => ?_, fun hc => ?_⟩
              · refine WA_seq (x := (fcd Tryz.f18 [1, 1, 0, 1, 0, 1, 1, 1, 1, 1, 1, 1, 1, 1, 1, 1, 1, 1, 0, 0])) (y := (fcd Tryz.f18 [1, 1, 0, 1, 0, 1, 1, 1, 1, 1, 1, 1, 1, 1, 1, 1, 1, 1, 0, 1])) ?_
                refine V_draw Γ [] [0, 1, 2, 3, 4, 5, 10, 11, 12, 13, 14, 19, 20, 30, 40, 44, 89, 110, 122, 145, 166, 175] mixed (by kernel_rfl) (evs ?_)
                have g4 := hg.2.2.2.1 (by omega) (by omega)
                subst hc
                have rk := hv.2.1 (by simp)
                have wn : WnH ⟨i, o, bd, 0, [], ps.getD 0 0⟩ x y := ⟨rk.2.1, rk.2.2.1, rk.2.2.2⟩
                have rr := rk.2.1
                simp only at rr
                have rq := rk_sq (r := ps.getD 0 0) (by omega) (by omega)
                have rq1 := rk_pos (r := ps.getD 0 0) rr.1
                
                have hF := rf7 (i := i) (o := o) (bd := bd) (ps := ps) (wt := wtL 7 (ps.getD 0 0)) (x := x) (y := y)  rk
                (try simp (maxSteps := 10000000) (disch := omega) only [w64])
                all_goals (try with_reducible (repeat' (first | apply And.intro | intro _)))
                all_goals (try (first | with_reducible refine wa_id ?_ | exact True.intro | exact rrank_fn ⟨_, _, _⟩ ⟨_, _⟩ ⟨_, _, _, _⟩ _ _ _ _ (by assumption) (by assumption) | omega | exact rsquare_fn _ _ _ _ _ _ false sq (fun h => by cases h) | exact rsquare_fn _ _ _ _ _ _ true sq h7 | exact rmean_fn _ so | exact rsharp_fn _ _ _ _ sa am vb.1 so2.2.2.2.2.1 | exact rsharp_fn _ _ _ _ sa am vb.2.1 so2.2.2.2.2.2.1 | exact rsharp_fn _ _ _ _ sa am vb.2.2.1 so2.2.2.2.2.2.2 | exact rrank_fn _ _ _ _ _ _ _ wn (by omega) | exact redge_fn _ _ _ _ _ ed | exact rmotion_fn _ _ _ _ _ _ _ hm2 | exact rblock_fn _ _ _ _ _ _ hp2))
                refine V_ret (evs ?_)
                exact pe hF
              · refine WA_seq (x := (fcd Tryz.f18 [1, 1, 0, 1, 0, 1, 1, 1, 1, 1, 1, 1, 1, 1, 1, 1, 1, 1, 1, 0])) (y := (fcd Tryz.f18 [1, 1, 0, 1, 0, 1, 1, 1, 1, 1, 1, 1, 1, 1, 1, 1, 1, 1, 1, 1])) ?_
                refine V_regionX Γ Δ [] [0, 1, 2, 3, 4, 5, 10, 11, 12, 13, 14, 19, 20, 30, 40, 44, 89, 110, 122, 145, 166, 175] (evs ?_)
                all_goals (try with_reducible (repeat' (first | apply And.intro | intro _)))
                all_goals (try (first | with_reducible refine wa_id ?_ | exact True.intro | omega))
                refine V_cond (evs ?_)
                refine ⟨fun hc => ?_, fun hc => ?_⟩
                · refine WA_seq (x := (fcd Tryz.f18 [1, 1, 0, 1, 0, 1, 1, 1, 1, 1, 1, 1, 1, 1, 1, 1, 1, 1, 1, 1, 0, 0])) (y := (fcd Tryz.f18 [1, 1, 0, 1, 0, 1, 1, 1, 1, 1, 1, 1, 1, 1, 1, 1, 1, 1, 1, 1, 0, 1])) ?_
                  refine V_draw Γ [] [0, 1, 2, 3, 4, 5, 10, 11, 12, 13, 14, 19, 20, 30, 40, 44, 89, 110, 122, 145, 166, 175] mixed (by kernel_rfl) (evs ?_)
                  have g4 := hg.2.2.2.1 (by omega) (by omega)
                  subst hc
                  have rk := hv.2.1 (by simp)
                  have wn : WnH ⟨i, o, bd, 0, [], ps.getD 0 0⟩ x y := ⟨rk.2.1, rk.2.2.1, rk.2.2.2⟩
                  have rr := rk.2.1
                  simp only at rr
                  have rq := rk_sq (r := ps.getD 0 0) (by omega) (by omega)
                  have rq1 := rk_pos (r := ps.getD 0 0) rr.1
                  
                  have hF := rf8 (i := i) (o := o) (bd := bd) (ps := ps) (wt := wtL 8 (ps.getD 0 0)) (x := x) (y := y)  rk
                  all_goals (try with_reducible (repeat' (first | apply And.intro | intro _)))
                  all_goals (try (first | with_reducible refine wa_id ?_ | exact True.intro | exact rrank_fn ⟨_, _, _⟩ ⟨_, _⟩ ⟨_, _, _, _⟩ _ _ _ _ (by assumption) (by assumption) | omega | exact rsquare_fn _ _ _ _ _ _ false sq (fun h => by cases h) | exact rsquare_fn _ _ _ _ _ _ true sq h7 | exact rmean_fn _ so | exact rsharp_fn _ _ _ _ sa am vb.1 so2.2.2.2.2.1 | exact rsharp_fn _ _ _ _ sa am vb.2.1 so2.2.2.2.2.2.1 | exact rsharp_fn _ _ _ _ sa am vb.2.2.1 so2.2.2.2.2.2.2 | exact rrank_fn _ _ _ _ _ _ _ wn (by omega) | exact redge_fn _ _ _ _ _ ed | exact rmotion_fn _ _ _ _ _ _ _ hm2 | exact rblock_fn _ _ _ _ _ _ hp2))
                  refine V_ret (evs ?_)
                  exact pe hF
                · refine WA_seq (x := (fcd Tryz.f18 [1, 1, 0, 1, 0, 1, 1, 1, 1, 1, 1, 1, 1, 1, 1, 1, 1, 1, 1, 1, 1, 0])) (y := (fcd Tryz.f18 [1, 1, 0, 1, 0, 1, 1, 1, 1, 1, 1, 1, 1, 1, 1, 1, 1, 1, 1, 1, 1, 1])) ?_
                  refine V_regionX Γ Δ [] [0, 1, 2, 3, 4, 5, 10, 11, 12, 13, 14, 19, 20, 30, 40, 44, 89, 110, 122, 145, 166, 175] (evs ?_)
                  all_goals (try with_reducible (repeat' (first | apply And.intro | intro _)))
                  all_goals (try (first | with_reducible refine wa_id ?_ | exact True.intro | omega))
                  refine V_cond (evs ?_)
                  refine ⟨fun hc => ?_, fun hc => ?_⟩
                  · refine WA_seq (x := (fcd Tryz.f18 [1, 1, 0, 1, 0, 1, 1, 1, 1, 1, 1, 1, 1, 1, 1, 1, 1, 1, 1, 1, 1, 1, 0, 0])) (y := (fcd Tryz.f18 [1, 1, 0, 1, 0, 1, 1, 1, 1, 1, 1, 1, 1, 1, 1, 1, 1, 1, 1, 1, 1, 1, 0, 1])) ?_
                    refine V_draw Γ [] [0, 1, 2, 3, 4, 5, 10, 11, 12, 13, 14, 19, 20, 30, 40, 44, 89, 110, 122, 145, 166, 175] mixed (by kernel_rfl) (evs ?_)
                    have g9 := hg.2.1 hc
                    have hm := hv.2.2.2.1 hc
                    subst hc
                    have hm2 := mt_cv hm
                    have hF := rf9 (i := i) (o := o) (bd := bd) (ps := ps) (wt := wtL 9 (ps.getD 0 0)) (x := x) (y := y) 
                    all_goals (try with_reducible (repeat' (first | apply And.intro | intro _)))
                    all_goals (try (first | with_reducible refine wa_id ?_ | exact True.intro | exact rmotion_fn ⟨_, _, _⟩ ⟨_, _⟩ ⟨_, _, _, _⟩ _ _ _ _ (by assumption) | omega | exact rsquare_fn _ _ _ _ _ _ false sq (fun h => by cases h) | exact rsquare_fn _ _ _ _ _ _ true sq h7 | exact rmean_fn _ so | exact rsharp_fn _ _ _ _ sa am vb.1 so2.2.2.2.2.1 | exact rsharp_fn _ _ _ _ sa am vb.2.1 so2.2.2.2.2.2.1 | exact rsharp_fn _ _ _ _ sa am vb.2.2.1 so2.2.2.2.2.2.2 | exact rrank_fn _ _ _ _ _ _ _ wn (by omega) | exact redge_fn _ _ _ _ _ ed | exact rmotion_fn _ _ _ _ _ _ _ hm2 | exact rblock_fn _ _ _ _ _ _ hp2))
                    refine V_ret (evs ?_)
                    exact pe hF
                  · refine WA_skip ?_
                    refine WA_seq (x := (fcd Tryz.f18 [1, 1, 1, 0])) (y := (fcd Tryz.f18 [1, 1, 1, 1])) ?_
                    refine V_draw Γ [] [0, 1, 2, 3, 4, 5, 10, 11, 12, 13, 14, 19, 20, 30, 40, 44, 89, 110, 122, 145, 166, 175] mixed (by kernel_rfl) (evs ?_)
                    have h10 : k = 10 := by omega
                    have g10 := hg.2.2.1 h10
                    have hp := hv.2.2.2.2.1 h10
                    subst h10
                    have hp2 := pg_cv hp
                    have hF := rf10 (i := i) (o := o) (bd := bd) (ps := ps) (wt := wtL 10 (ps.getD 0 0)) (x := x) (y := y) 
                    all_goals (try with_reducible (repeat' (first | apply And.intro | intro _)))
                    all_goals (try (first | with_reducible refine wa_id ?_ | exact True.intro | exact rblock_fn ⟨_, _, _⟩ ⟨_, _⟩ ⟨_, _, _, _⟩ _ _ _ (by assumption) | omega | exact rsquare_fn _ _ _ _ _ _ false sq (fun h => by cases h) | exact rsquare_fn _ _ _ _ _ _ true sq h7 | exact rmean_fn _ so | exact rsharp_fn _ _ _ _ sa am vb.1 so2.2.2.2.2.1 | exact rsharp_fn _ _ _ _ sa am vb.2.1 so2.2.2.2.2.2.1 | exact rsharp_fn _ _ _ _ sa am vb.2.2.1 so2.2.2.2.2.2.2 | exact rrank_fn _ _ _ _ _ _ _ wn (by omega) | exact redge_fn _ _ _ _ _ ed | exact rmotion_fn _ _ _ _ _ _ _ hm2 | exact rblock_fn _ _ _ _ _ _ hp2))
                    refine V_ret (evs ?_)
                    exact pe hF

end Go.S16

