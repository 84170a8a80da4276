import Derived.Test.YtdillkdhpalgcaaGreatB4
import Derived.Test.YtdillkdhpalgcaaGreatB1
import Derived.Test.YtdillkdhpalgcaaGreatD5
set_option linter.unusedSimpArgs false
set_option linter.unusedVariables false
set_option linter.unusedSimpArgs false
set_option linter.unusedVariables false
namespace Go.S16
open Go.RowKit Go.Proofs Go.Eng Go.Rect
set_option maxHeartbeats 4000000 in
set_option maxRecDepth 100000 in
theorem newView_fn (i : Im) (o : Pt) (bd : Rc) (k : Int) (ps : List Int) (hf : fchkE k ps = 0) (hk : k = 1 ∨ k = 2 ∨ k = 3) : Eng.Fn Tryz.prog 14 [imD i, ptD o, rcD bd, .i k, .sl 1 (ps.map iC)] (.dat (.bx (vwC ⟨i, o, bd, k, ps, radK k ps⟩ (wtD k (ps.getD 0 0)) (.v (.slice none 0 0)) (.v (.slice none 0 0)) (.v (.slice none 0 0)) (.v (.slice none 0 0))))) := by
  have hg := fk_rg hf
  have hg1 := hg.2.2.2.1 (by omega) (by omega)
  have hg2 := hg1.2.2.2.1 (by omega)
  rw [radK1 hk, wtD1 hk]
  refine Eng.Fn.by (fn := Tryz.f14) 104 [.tmp 10] Tryz.func14 rfl Tryz.ntmps14 rfl (by simp) fun w0 G0 => ?_
  refine WA_seq (x := (fcd Tryz.f14 [0])) (y := (fcd Tryz.f14 [1])) ?_
  refine V_regionX Γ Δ [] [0, 1, 2, 3, 4, 5, 6, 7, 10, 11, 12, 13, 14, 22, 23, 46, 47, 48, 57, 74, 90, 91] (evs ?_)
  all_goals (try with_reducible (repeat' (first | apply And.intro | intro _)))
  all_goals (try (first | with_reducible refine wa_id ?_ | exact True.intro | omega))
  refine WA_seq (x := (fcd Tryz.f14 [1, 0])) (y := (fcd Tryz.f14 [1, 1])) ?_
  refine V_regionX Γ Δ [] [0, 1, 2, 3, 4, 5, 6, 7, 10, 11, 12, 13, 14, 22, 23, 46, 47, 48, 57, 74, 90, 91] (evs ?_)
  all_goals (try with_reducible (repeat' (first | apply And.intro | intro _)))
  all_goals (try (first | with_reducible refine wa_id ?_ | exact True.intro | omega))
  refine V_cut (x := (fcd Tryz.f14 [1, 1, 0])) (y := (fcd Tryz.f14 [1, 1, 1])) (α := Unit) [12, 13, 14, 22, 23, 46, 47, 48, 57, 74, 90, 91] [21, 39, 98, 17100, 17101, 17102, 17103] (fun _ => []) (fun _ => [(21, some (true, .box 64 [.dat (.i i.w), .dat (.i i.h), .dat (.sl 4 (i.p.map pxC)), .dat (.i o.x), .dat (.i o.y), .dat (.i bd.x), .dat (.i bd.y), .dat (.i bd.w), .dat (.i bd.h), .dat (.i k), .dat (.sl 1 (ps.map iC)), .dat (.i (ps.getD 0 0)), .dat (.sl 1 ((wtL k (ps.getD 0 0)).map iC)), .dat (.v (.slice none 0 0)), .dat (.v (.slice none 0 0)), .dat (.v (.slice none 0 0)), .dat (.v (.slice none 0 0))]))]) (fun _ => True) ?_ ?_
  · refine WA_seq (x := (fcd Tryz.f14 [1, 1, 0, 0])) (y := (fcd Tryz.f14 [1, 1, 0, 1])) ?_
    refine V_regionX Γ Δ [] [0, 1, 2, 3, 4, 5, 6, 7, 10, 11, 12, 13, 14, 22, 23, 46, 47, 48, 57, 74, 90, 91] (evs ?_)
    all_goals (try with_reducible (repeat' (first | apply And.intro | intro _)))
    all_goals (try (first | with_reducible refine wa_id ?_ | exact True.intro | omega))
    refine WA_block (c := (fcd Tryz.f14 [1, 1, 0, 1, 0])) ?_
    refine V_cut (x := (fcd Tryz.f14 [1, 1, 0, 1, 0, 0])) (y := (fcd Tryz.f14 [1, 1, 0, 1, 0, 1])) (α := Unit) [23] [] (fun _ => [(23, .dat (.b (k == 1 || k == 3)))]) (fun _ => []) (fun _ => True) ?_ ?_
    · refine WA_seq (x := (fcd Tryz.f14 [1, 1, 0, 1, 0, 0, 0])) (y := (fcd Tryz.f14 [1, 1, 0, 1, 0, 0, 1])) ?_
      refine V_regionX Γ Δ [] [0, 1, 2, 3, 4, 5, 6, 7, 10, 11, 12, 13, 14, 22, 23, 46, 47, 48, 57, 74, 90, 91] (evs ?_)
      all_goals (try with_reducible (repeat' (first | apply And.intro | intro _)))
      all_goals (try (first | with_reducible refine wa_id ?_ | exact True.intro | omega))
      refine V_cond (evs ?_)
      refine ⟨fun hc => ?_, fun hc => ?_⟩
      · refine WA_skip ?_
        refine V_jn [] () (evs ?_) ?_
        all_goals (try with_reducible (repeat' (first | apply And.intro | intro _)))
        all_goals (first | exact True.intro | omega | (first | (rw [Bool.eq_iff_iff]; simp; omega)))
      · refine V_regionX Γ Δ [] [0, 1, 2, 3, 4, 5, 6, 7, 10, 11, 12, 13, 14, 22, 23, 46, 47, 48, 57, 74, 90, 91] (evs ?_)
        all_goals (try with_reducible (repeat' (first | apply And.intro | intro _)))
        all_goals (try (first | with_reducible refine wa_id ?_ | exact True.intro | omega))
        refine V_jn [] () (evs ?_) ?_
        all_goals (try with_reducible (repeat' (first | apply And.intro | intro _)))
        all_goals (first | exact True.intro | omega | (first | (rw [Bool.eq_iff_iff]; simp; omega)))
    · intro _ _
      refine V_cond (evs ?_)
      refine ⟨fun hc => ?_, fun hc => ?_⟩
      · refine WA_seq (x := (fcd Tryz.f14 [1, 1, 0, 1, 0, 1, 0, 0])) (y := (fcd Tryz.f14 [1, 1, 0, 1, 0, 1, 0, 1])) ?_
        refine V_regionX Γ Δ [] [0, 1, 2, 3, 4, 5, 6, 7, 10, 11, 12, 13, 14, 22, 23, 46, 47, 48, 57, 74, 90, 91] (evs ?_)
        all_goals (try with_reducible (repeat' (first | apply And.intro | intro _)))
        all_goals (try (first | with_reducible refine wa_id ?_ | exact True.intro | omega))
        refine WA_seq (x := (fcd Tryz.f14 [1, 1, 0, 1, 0, 1, 0, 1, 0])) (y := (fcd Tryz.f14 [1, 1, 0, 1, 0, 1, 0, 1, 1])) ?_
        refine V_regionX Γ Δ [] [0, 1, 2, 3, 4, 5, 6, 7, 10, 11, 12, 13, 14, 22, 23, 46, 47, 48, 57, 74, 90, 91] (evs ?_)
        (try simp (maxSteps := 10000000) (disch := omega) only [w64])
        all_goals (try with_reducible (repeat' (first | apply And.intro | intro _)))
        all_goals (try (first | with_reducible refine wa_id ?_ | exact True.intro | omega))
        refine WA_seq (x := (fcd Tryz.f14 [1, 1, 0, 1, 0, 1, 0, 1, 1, 0])) (y := (fcd Tryz.f14 [1, 1, 0, 1, 0, 1, 0, 1, 1, 1])) ?_
        refine V_regionX Γ Δ [] [0, 1, 2, 3, 4, 5, 6, 7, 10, 11, 12, 13, 14, 22, 23, 46, 47, 48, 57, 74, 90, 91] (evs ?_)
        all_goals (try with_reducible (repeat' (first | apply And.intro | intro _)))
        all_goals (try (first | with_reducible refine wa_id ?_ | exact True.intro | omega))
        refine WA_block (c := (fcd Tryz.f14 [1, 1, 0, 1, 0, 1, 0, 1, 1, 1, 0])) ?_
        refine V_loop (c := (fcd Tryz.f14 [1, 1, 0, 1, 0, 1, 0, 1, 1, 1, 0, 0])) (α := Nat) [12, 47, 48] [39] (fun j => [(47, .dat (.i (j : Int)))]) (fun j => [(39, some (true, .arr 3 1 ((fil (2 * ps.getD 0 0 + 1).toNat (fun _ => 1) j).map iC)))]) (fun j => j ≤ (2 * ps.getD 0 0 + 1).toNat) (fun j => (2 * ps.getD 0 0 + 1).toNat - j) 0 [] ?_ (evs ?_) ?_
        · exact Nat.zero_le _
        · (try with_reducible (repeat' (first | apply And.intro | intro _)))
          all_goals (first | exact True.intro | omega | (first | exact fil_0I _ _ | rfl))
        · intro j hJ
          refine WA_seq (x := (fcd Tryz.f14 [1, 1, 0, 1, 0, 1, 0, 1, 1, 1, 0, 0, 0])) (y := (fcd Tryz.f14 [1, 1, 0, 1, 0, 1, 0, 1, 1, 1, 0, 0, 1])) ?_
          refine V_regionX Γ Δ [] [0, 1, 2, 3, 4, 5, 6, 7, 10, 11, 12, 13, 14, 22, 23, 46, 47, 48, 57, 74, 90, 91] (evs ?_)
          all_goals (try with_reducible (repeat' (first | apply And.intro | intro _)))
          all_goals (try (first | with_reducible refine wa_id ?_ | exact True.intro | omega))
          refine WA_seq (x := (fcd Tryz.f14 [1, 1, 0, 1, 0, 1, 0, 1, 1, 1, 0, 0, 1, 0])) (y := (fcd Tryz.f14 [1, 1, 0, 1, 0, 1, 0, 1, 1, 1, 0, 0, 1, 1])) ?_
          refine V_cond (evs ?_)
          refine ⟨fun hc => ?_, fun hc => ?_⟩
          · refine WA_skip ?_
            refine WA_seq (x := (fcd Tryz.f14 [1, 1, 0, 1, 0, 1, 0, 1, 1, 1, 0, 0, 1, 1, 0])) (y := (fcd Tryz.f14 [1, 1, 0, 1, 0, 1, 0, 1, 1, 1, 0, 0, 1, 1, 1])) ?_
            refine WA_block (c := (fcd Tryz.f14 [1, 1, 0, 1, 0, 1, 0, 1, 1, 1, 0, 0, 1, 1, 0, 0])) ?_
            refine WA_seq (x := (fcd Tryz.f14 [1, 1, 0, 1, 0, 1, 0, 1, 1, 1, 0, 0, 1, 1, 0, 0, 0])) (y := (fcd Tryz.f14 [1, 1, 0, 1, 0, 1, 0, 1, 1, 1, 0, 0, 1, 1, 0, 0, 1])) ?_
            refine V_regionX Γ Δ [] [0, 1, 2, 3, 4, 5, 6, 7, 10, 11, 12, 13, 14, 22, 23, 46, 47, 48, 57, 74, 90, 91] (evs ?_)
            all_goals (try with_reducible (repeat' (first | apply And.intro | intro _)))
            all_goals (try (first | with_reducible refine wa_id ?_ | exact True.intro | omega))
            refine V_regionX Γ Δ [] [0, 1, 2, 3, 4, 5, 6, 7, 10, 11, 12, 13, 14, 22, 23, 46, 47, 48, 57, 74, 90, 91] (evs ?_)
            all_goals (try with_reducible (repeat' (first | apply And.intro | intro _)))
            all_goals (try (first | with_reducible refine wa_id ?_ | exact True.intro | omega))
            refine V_regionX Γ Δ [] [0, 1, 2, 3, 4, 5, 6, 7, 10, 11, 12, 13, 14, 22, 23, 46, 47, 48, 57, 74, 90, 91] (evs ?_)
            all_goals (try with_reducible (repeat' (first | apply And.intro | intro _)))
            all_goals (try (first | with_reducible refine wa_id ?_ | exact True.intro | omega))
            refine V_next [] (j + 1) (evs ?_) ?_ ?_
            all_goals (try with_reducible (repeat' (first | apply And.intro | intro _)))
            all_goals (first | exact True.intro | omega | (first | exact w64l (n := 64) (by omega) (by omega) | exact fil_setI rfl))
          · refine V_exit (evs ?_)
            refine V_jn [] () (evs ?_) ?_
            all_goals (try with_reducible (repeat' (first | apply And.intro | intro _)))
            all_goals (first | exact True.intro | omega | (first | exact nv1 ‹_› (by omega) | exact nv2 ‹_› (by omega) | rfl))
      · refine WA_seq (x := (fcd Tryz.f14 [1, 1, 0, 1, 0, 1, 1, 0])) (y := (fcd Tryz.f14 [1, 1, 0, 1, 0, 1, 1, 1])) ?_
        refine V_regionX Γ Δ [] [0, 1, 2, 3, 4, 5, 6, 7, 10, 11, 12, 13, 14, 22, 23, 46, 47, 48, 57, 74, 90, 91] (evs ?_)
        all_goals (try with_reducible (repeat' (first | apply And.intro | intro _)))
        all_goals (try (first | with_reducible refine wa_id ?_ | exact True.intro | omega))
        refine V_cond (evs ?_)
        refine ⟨fun hc => ?_, fun hc => by exact absurd hc (by omega)⟩
        refine WA_seq (x := (fcd Tryz.f14 [1, 1, 0, 1, 0, 1, 1, 1, 0, 0])) (y := (fcd Tryz.f14 [1, 1, 0, 1, 0, 1, 1, 1, 0, 1])) ?_
        refine V_regionX Γ Δ [] [0, 1, 2, 3, 4, 5, 6, 7, 10, 11, 12, 13, 14, 22, 23, 46, 47, 48, 57, 74, 90, 91] (evs ?_)
        all_goals (try with_reducible (repeat' (first | apply And.intro | intro _)))
        all_goals (try (first | with_reducible refine wa_id ?_ | exact True.intro | omega))
        refine V_regionX Γ Δ [] [0, 1, 2, 3, 4, 5, 6, 7, 10, 11, 12, 13, 14, 22, 23, 46, 47, 48, 57, 74, 90, 91] (evs ?_)
        (try simp (maxSteps := 10000000) (disch := omega) only [w64])
        all_goals (try with_reducible (repeat' (first | apply And.intro | intro _)))
        all_goals (try (first | with_reducible refine wa_id ?_ | exact True.intro | exact bin_fn _ (by omega) | omega))
        refine V_jn [] () (evs ?_) ?_
        all_goals (try with_reducible (repeat' (first | apply And.intro | intro _)))
        all_goals (first | exact True.intro | omega | (first | exact nv1 ‹_› (by omega) | exact nv2 ‹_› (by omega) | rfl))
  · intro _ _
    refine WA_seq (x := (fcd Tryz.f14 [1, 1, 1, 0])) (y := (fcd Tryz.f14 [1, 1, 1, 1])) ?_
    refine V_regionX Γ Δ [] [0, 1, 2, 3, 4, 5, 6, 7, 10, 11, 12, 13, 14, 22, 23, 46, 47, 48, 57, 74, 90, 91] (evs ?_)
    all_goals (try with_reducible (repeat' (first | apply And.intro | intro _)))
    all_goals (try (first | with_reducible refine wa_id ?_ | exact True.intro | omega))
    refine V_ret (evs ?_)
    first | rfl | (simp only [vwOf]; done)

set_option maxHeartbeats 2000000 in
set_option maxRecDepth 100000 in
theorem filtered_fn (v : Vw) (wt : List Int) (b c d e : D) (x y : Int) (hk : v.kind = 1 ∨ v.kind = 2 ∨ v.kind = 3) (hv : SqH v wt x y) (h3 : v.kind = 3 → 0 ≤ v.ps.getD 1 0 ∧ v.ps.getD 1 0 ≤ 262140 ∧ v.ps.length = 2) : Eng.Fn Tryz.prog 15 [.bx (vwC v (.sl 1 (wt.map iC)) b c d e), .i x, .i y] (.dat (pxD (filF v wt x y))) := by
  have so : SmOk (sqS v wt x y) := sqm_ok hv _ (Nat.le_refl _)
  refine Eng.Fn.by (fn := Tryz.f15) 72 [.cell 6 49] Tryz.func15 rfl Tryz.ntmps15 rfl (by simp) fun w0 G0 => ?_
  refine WA_seq (x := (fcd Tryz.f15 [0])) (y := (fcd Tryz.f15 [1])) ?_
  refine V_regionX Γ Δ [] [0, 1, 2, 6, 7, 11, 12, 20, 26, 34, 40, 62] (evs ?_)
  all_goals (try with_reducible (repeat' (first | apply And.intro | intro _)))
  all_goals (try (first | with_reducible refine wa_id ?_ | exact True.intro | omega))
  refine WA_seq (x := (fcd Tryz.f15 [1, 0])) (y := (fcd Tryz.f15 [1, 1])) ?_
  refine WA_seq (x := (fcd Tryz.f15 [1, 0, 0])) (y := (fcd Tryz.f15 [1, 0, 1])) ?_
  refine V_regionX Γ Δ [] [0, 1, 2, 6, 7, 11, 12, 20, 26, 34, 40, 62] (evs ?_)
  all_goals (try with_reducible (repeat' (first | apply And.intro | intro _)))
  all_goals (try (first | with_reducible refine wa_id ?_ | exact True.intro | omega))
  refine WA_block (c := (fcd Tryz.f15 [1, 0, 1, 0])) ?_
  refine V_cut (x := (fcd Tryz.f15 [1, 0, 1, 0, 0])) (y := (fcd Tryz.f15 [1, 0, 1, 0, 1])) (α := Unit) [12] [] (fun _ => [(12, .dat (.b (v.kind == 1 || v.kind == 2)))]) (fun _ => []) (fun _ => True) ?_ ?_
  · refine WA_seq (x := (fcd Tryz.f15 [1, 0, 1, 0, 0, 0])) (y := (fcd Tryz.f15 [1, 0, 1, 0, 0, 1])) ?_
    refine V_regionX Γ Δ [] [0, 1, 2, 6, 7, 11, 12, 20, 26, 34, 40, 62] (evs ?_)
    all_goals (try with_reducible (repeat' (first | apply And.intro | intro _)))
    all_goals (try (first | with_reducible refine wa_id ?_ | exact True.intro | omega))
    refine V_cond (evs ?_)
    refine ⟨fun hc => ?_, fun hc => ?_⟩
    · refine WA_skip ?_
      refine V_jn [] () (evs ?_) ?_
      all_goals (try with_reducible (repeat' (first | apply And.intro | intro _)))
      all_goals (first | exact True.intro | omega | (first | (rw [Bool.eq_iff_iff]; simp; omega)))
    · refine V_regionX Γ Δ [] [0, 1, 2, 6, 7, 11, 12, 20, 26, 34, 40, 62] (evs ?_)
      all_goals (try with_reducible (repeat' (first | apply And.intro | intro _)))
      all_goals (try (first | with_reducible refine wa_id ?_ | exact True.intro | omega))
      refine V_jn [] () (evs ?_) ?_
      all_goals (try with_reducible (repeat' (first | apply And.intro | intro _)))
      all_goals (first | exact True.intro | omega | (first | (rw [Bool.eq_iff_iff]; simp; omega)))
  · intro _ _
    refine V_cond (evs ?_)
    refine ⟨fun hc => ?_, fun hc => ?_⟩
    · refine WA_seq (x := (fcd Tryz.f15 [1, 0, 1, 0, 1, 0, 0])) (y := (fcd Tryz.f15 [1, 0, 1, 0, 1, 0, 1])) ?_
      refine V_regionX Γ Δ [] [0, 1, 2, 6, 7, 11, 12, 20, 26, 34, 40, 62] (evs ?_)
      all_goals (try with_reducible (repeat' (first | apply And.intro | intro _)))
      all_goals (try (first | with_reducible refine wa_id ?_ | exact True.intro | exact square_fn ⟨⟨_, _, _⟩, ⟨_, _⟩, ⟨_, _, _, _⟩, _, _, _⟩ _ _ _ _ _ _ _ (by assumption) | omega))
      refine WA_seq (x := (fcd Tryz.f15 [1, 0, 1, 0, 1, 0, 1, 0])) (y := (fcd Tryz.f15 [1, 0, 1, 0, 1, 0, 1, 1])) ?_
      refine V_regionX Γ Δ [] [0, 1, 2, 6, 7, 11, 12, 20, 26, 34, 40, 62] (evs ?_)
      all_goals (try with_reducible (repeat' (first | apply And.intro | intro _)))
      all_goals (try (first | with_reducible refine wa_id ?_ | exact True.intro | exact mean_fn _ (by assumption) | omega))
      refine V_ret (evs ?_)
      first | exact pe (ff1 hc) | exact pe (ff3 hc)
    · refine WA_seq (x := (fcd Tryz.f15 [1, 0, 1, 0, 1, 1, 0])) (y := (fcd Tryz.f15 [1, 0, 1, 0, 1, 1, 1])) ?_
      refine V_regionX Γ Δ [] [0, 1, 2, 6, 7, 11, 12, 20, 26, 34, 40, 62] (evs ?_)
      all_goals (try with_reducible (repeat' (first | apply And.intro | intro _)))
      all_goals (try (first | with_reducible refine wa_id ?_ | exact True.intro | omega))
      refine V_cond (evs ?_)
      refine ⟨fun hc => ?_, fun hc => by exact absurd hc (by omega)⟩
      refine WA_seq (x := (fcd Tryz.f15 [1, 0, 1, 0, 1, 1, 1, 0, 0])) (y := (fcd Tryz.f15 [1, 0, 1, 0, 1, 1, 1, 0, 1])) ?_
      refine V_regionX Γ Δ [] [0, 1, 2, 6, 7, 11, 12, 20, 26, 34, 40, 62] (evs ?_)
      have h4 := h3 hc
      all_goals (try with_reducible (repeat' (first | apply And.intro | intro _)))
      all_goals (try (first | with_reducible refine wa_id ?_ | exact True.intro | exact sharpen_fn ⟨⟨_, _, _⟩, ⟨_, _⟩, ⟨_, _, _, _⟩, _, _, _⟩ _ _ _ _ _ _ _ (by assumption) (by assumption) | omega))
      refine V_ret (evs ?_)
      first | exact pe (ff1 hc) | exact pe (ff3 hc)

end Go.S16

