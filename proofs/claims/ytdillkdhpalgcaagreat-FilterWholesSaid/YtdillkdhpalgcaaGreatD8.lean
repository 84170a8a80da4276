import Derived.Test.YtdillkdhpalgcaaGreatD4
import Derived.Test.YtdillkdhpalgcaaGreatD6
import Derived.Test.YtdillkdhpalgcaaGreatB6
set_option linter.unusedSimpArgs false
set_option linter.unusedVariables false
set_option linter.unusedSimpArgs false
set_option linter.unusedVariables false
namespace Go.S16
open Go.RowKit Go.Proofs Go.Eng Go.Rect
set_option maxHeartbeats 4000000 in
set_option maxRecDepth 100000 in
theorem newView_n (i : Im) (o : Pt) (bd : Rc) (k : Int) (ps : List Int) (hk : (k = 5 ∨ k = 6 ∨ k = 9 ∨ k = 10)) : Eng.Fn Tryz.prog 14 [imD i, ptD o, rcD bd, .i k, .sl 1 (ps.map iC)] (.dat (.bx (vwC ⟨i, o, bd, k, ps, radK k ps⟩ (wtD k (ps.getD 0 0)) (.v (.slice none 0 0)) (.v (.slice none 0 0)) (.v (.slice none 0 0)) (.v (.slice none 0 0))))) := by
  rw [radK0 hk, wtD0 hk]
  refine Eng.Fn.by (fn := Tryz.f14) 104 [.tmp 10] Tryz.func14 rfl Tryz.ntmps14 rfl (by simp) fun w0 G0 => ?_
  refine WA_seq (x := (fcd Tryz.f14 [0])) (y := (fcd Tryz.f14 [1])) ?_
  refine V_regionX Γ Δ [] [0, 1, 2, 3, 4, 5, 6, 7, 10, 11, 12, 13, 14, 22, 23, 46, 47, 48, 57, 74, 90, 91] (evs ?_)
  all_goals (try with_reducible (repeat' (first | apply And.intro | intro _)))
  all_goals (try (first | with_reducible refine wa_id ?_ | exact True.intro | omega))
  refine WA_seq (x := (fcd Tryz.f14 [1, 0])) (y := (fcd Tryz.f14 [1, 1])) ?_
  refine V_regionX Γ Δ [] [0, 1, 2, 3, 4, 5, 6, 7, 10, 11, 12, 13, 14, 22, 23, 46, 47, 48, 57, 74, 90, 91] (evs ?_)
  all_goals (try with_reducible (repeat' (first | apply And.intro | intro _)))
  all_goals (try (first | with_reducible refine wa_id ?_ | exact True.intro | omega))
  refine WA_seq (x := (fcd Tryz.f14 [1, 1, 0])) (y := (fcd Tryz.f14 [1, 1, 1])) ?_
  refine WA_seq (x := (fcd Tryz.f14 [1, 1, 0, 0])) (y := (fcd Tryz.f14 [1, 1, 0, 1])) ?_
  refine V_regionX Γ Δ [] [0, 1, 2, 3, 4, 5, 6, 7, 10, 11, 12, 13, 14, 22, 23, 46, 47, 48, 57, 74, 90, 91] (evs ?_)
  all_goals (try with_reducible (repeat' (first | apply And.intro | intro _)))
  all_goals (try (first | with_reducible refine wa_id ?_ | exact True.intro | omega))
  refine WA_block (c := (fcd Tryz.f14 [1, 1, 0, 1, 0])) ?_
  refine WA_seq (x := (fcd Tryz.f14 [1, 1, 0, 1, 0, 0])) (y := (fcd Tryz.f14 [1, 1, 0, 1, 0, 1])) ?_
  refine WA_seq (x := (fcd Tryz.f14 [1, 1, 0, 1, 0, 0, 0])) (y := (fcd Tryz.f14 [1, 1, 0, 1, 0, 0, 1])) ?_
  refine V_regionX Γ Δ [] [0, 1, 2, 3, 4, 5, 6, 7, 10, 11, 12, 13, 14, 22, 23, 46, 47, 48, 57, 74, 90, 91] (evs ?_)
  all_goals (try with_reducible (repeat' (first | apply And.intro | intro _)))
  all_goals (try (first | with_reducible refine wa_id ?_ | exact True.intro | omega))
  refine V_cond (evs ?_)
  refine ⟨fun hc => by exact absurd hc (by omega), fun hc => ?_⟩
  refine V_regionX Γ Δ [] [0, 1, 2, 3, 4, 5, 6, 7, 10, 11, 12, 13, 14, 22, 23, 46, 47, 48, 57, 74, 90, 91] (evs ?_)
  all_goals (try with_reducible (repeat' (first | apply And.intro | intro _)))
  all_goals (try (first | with_reducible refine wa_id ?_ | exact True.intro | omega))
  refine V_cond (evs ?_)
  refine ⟨fun hc => by exact absurd hc (by omega), fun hc => ?_⟩
  refine WA_seq (x := (fcd Tryz.f14 [1, 1, 0, 1, 0, 1, 1, 0])) (y := (fcd Tryz.f14 [1, 1, 0, 1, 0, 1, 1, 1])) ?_
  refine V_regionX Γ Δ [] [0, 1, 2, 3, 4, 5, 6, 7, 10, 11, 12, 13, 14, 22, 23, 46, 47, 48, 57, 74, 90, 91] (evs ?_)
  all_goals (try with_reducible (repeat' (first | apply And.intro | intro _)))
  all_goals (try (first | with_reducible refine wa_id ?_ | exact True.intro | omega))
  refine V_cond (evs ?_)
  refine ⟨fun hc => by exact absurd hc (by omega), fun hc => ?_⟩
  refine WA_seq (x := (fcd Tryz.f14 [1, 1, 0, 1, 0, 1, 1, 1, 1, 0])) (y := (fcd Tryz.f14 [1, 1, 0, 1, 0, 1, 1, 1, 1, 1])) ?_
  refine WA_seq (x := (fcd Tryz.f14 [1, 1, 0, 1, 0, 1, 1, 1, 1, 0, 0])) (y := (fcd Tryz.f14 [1, 1, 0, 1, 0, 1, 1, 1, 1, 0, 1])) ?_
  refine V_regionX Γ Δ [] [0, 1, 2, 3, 4, 5, 6, 7, 10, 11, 12, 13, 14, 22, 23, 46, 47, 48, 57, 74, 90, 91] (evs ?_)
  all_goals (try with_reducible (repeat' (first | apply And.intro | intro _)))
  all_goals (try (first | with_reducible refine wa_id ?_ | exact True.intro | omega))
  refine V_cond (evs ?_)
  refine ⟨fun hc => by exact absurd hc (by omega), fun hc => ?_⟩
  refine WA_seq (x := (fcd Tryz.f14 [1, 1, 0, 1, 0, 1, 1, 1, 1, 0, 1, 1, 0])) (y := (fcd Tryz.f14 [1, 1, 0, 1, 0, 1, 1, 1, 1, 0, 1, 1, 1])) ?_
  refine V_regionX Γ Δ [] [0, 1, 2, 3, 4, 5, 6, 7, 10, 11, 12, 13, 14, 22, 23, 46, 47, 48, 57, 74, 90, 91] (evs ?_)
  all_goals (try with_reducible (repeat' (first | apply And.intro | intro _)))
  all_goals (try (first | with_reducible refine wa_id ?_ | exact True.intro | omega))
  refine V_cond (evs ?_)
  refine ⟨fun hc => by exact absurd hc (by omega), fun hc => ?_⟩
  refine V_regionX Γ Δ [] [0, 1, 2, 3, 4, 5, 6, 7, 10, 11, 12, 13, 14, 22, 23, 46, 47, 48, 57, 74, 90, 91] (evs ?_)
  all_goals (try with_reducible (repeat' (first | apply And.intro | intro _)))
  all_goals (try (first | with_reducible refine wa_id ?_ | exact True.intro | omega))
  refine V_cond (evs ?_)
  refine ⟨fun hc => by exact absurd hc (by omega), fun hc => ?_⟩
  refine WA_skip ?_
  refine WA_seq (x := (fcd Tryz.f14 [1, 1, 1, 0])) (y := (fcd Tryz.f14 [1, 1, 1, 1])) ?_
  refine V_regionX Γ Δ [] [0, 1, 2, 3, 4, 5, 6, 7, 10, 11, 12, 13, 14, 22, 23, 46, 47, 48, 57, 74, 90, 91] (evs ?_)
  all_goals (try with_reducible (repeat' (first | apply And.intro | intro _)))
  all_goals (try (first | with_reducible refine wa_id ?_ | exact True.intro | omega))
  refine V_ret (evs ?_)
  first | exact True.intro | rfl | exact ⟨rfl, rfl, rfl, rfl⟩

set_option maxHeartbeats 8000000 in
set_option maxRecDepth 100000 in
theorem filtered_n (v : Vw) (b c d e : D) (x y : Int) (hv : NwH v x y) : Eng.Fn Tryz.prog 15 [.bx (vwC v (.v (.slice none 0 0)) b c d e), .i x, .i y] (.dat (pxD (filF v [] x y))) := by
  have hk := hv.1
  refine Eng.Fn.by (fn := Tryz.f15) 72 [.cell 6 49] Tryz.func15 rfl Tryz.ntmps15 rfl (by simp) fun w0 G0 => ?_
  refine WA_seq (x := (fcd Tryz.f15 [0])) (y := (fcd Tryz.f15 [1])) ?_
  refine V_regionX Γ Δ [] [0, 1, 2, 6, 7, 11, 12, 20, 26, 34, 40, 62] (evs ?_)
  all_goals (try with_reducible (repeat' (first | apply And.intro | intro _)))
  all_goals (try (first | with_reducible refine wa_id ?_ | exact True.intro | omega))
  refine WA_seq (x := (fcd Tryz.f15 [1, 0])) (y := (fcd Tryz.f15 [1, 1])) ?_
  refine WA_seq (x := (fcd Tryz.f15 [1, 0, 0])) (y := (fcd Tryz.f15 [1, 0, 1])) ?_
  refine V_regionX Γ Δ [] [0, 1, 2, 6, 7, 11, 12, 20, 26, 34, 40, 62] (evs ?_)
  all_goals (try with_reducible (repeat' (first | apply And.intro | intro _)))
  all_goals (try (first | with_reducible refine wa_id ?_ | exact True.intro | omega))
  refine WA_block (c := (fcd Tryz.f15 [1, 0, 1, 0])) ?_
  refine WA_seq (x := (fcd Tryz.f15 [1, 0, 1, 0, 0])) (y := (fcd Tryz.f15 [1, 0, 1, 0, 1])) ?_
  refine WA_seq (x := (fcd Tryz.f15 [1, 0, 1, 0, 0, 0])) (y := (fcd Tryz.f15 [1, 0, 1, 0, 0, 1])) ?_
  refine V_regionX Γ Δ [] [0, 1, 2, 6, 7, 11, 12, 20, 26, 34, 40, 62] (evs ?_)
  all_goals (try with_reducible (repeat' (first | apply And.intro | intro _)))
  all_goals (try (first | with_reducible refine wa_id ?_ | exact True.intro | omega))
  refine V_cond (evs ?_)
  refine ⟨fun hc => by exact absurd hc (by omega), fun hc => ?_⟩
  refine V_regionX Γ Δ [] [0, 1, 2, 6, 7, 11, 12, 20, 26, 34, 40, 62] (evs ?_)
  all_goals (try with_reducible (repeat' (first | apply And.intro | intro _)))
  all_goals (try (first | with_reducible refine wa_id ?_ | exact True.intro | omega))
  refine V_cond (evs ?_)
  refine ⟨fun hc => by exact absurd hc (by omega), fun hc => ?_⟩
  refine WA_seq (x := (fcd Tryz.f15 [1, 0, 1, 0, 1, 1, 0])) (y := (fcd Tryz.f15 [1, 0, 1, 0, 1, 1, 1])) ?_
  refine V_regionX Γ Δ [] [0, 1, 2, 6, 7, 11, 12, 20, 26, 34, 40, 62] (evs ?_)
  all_goals (try with_reducible (repeat' (first | apply And.intro | intro _)))
  all_goals (try (first | with_reducible refine wa_id ?_ | exact True.intro | omega))
  refine V_cond (evs ?_)
  refine ⟨fun hc => by exact absurd hc (by omega), fun hc => ?_⟩
  refine WA_seq (x := (fcd Tryz.f15 [1, 0, 1, 0, 1, 1, 1, 1, 0])) (y := (fcd Tryz.f15 [1, 0, 1, 0, 1, 1, 1, 1, 1])) ?_
  refine WA_seq (x := (fcd Tryz.f15 [1, 0, 1, 0, 1, 1, 1, 1, 0, 0])) (y := (fcd Tryz.f15 [1, 0, 1, 0, 1, 1, 1, 1, 0, 1])) ?_
  refine V_regionX Γ Δ [] [0, 1, 2, 6, 7, 11, 12, 20, 26, 34, 40, 62] (evs ?_)
  all_goals (try with_reducible (repeat' (first | apply And.intro | intro _)))
  all_goals (try (first | with_reducible refine wa_id ?_ | exact True.intro | omega))
  refine V_cond (evs ?_)
  refine ⟨fun hc => by exact absurd hc (by omega), fun hc => ?_⟩
  refine WA_seq (x := (fcd Tryz.f15 [1, 0, 1, 0, 1, 1, 1, 1, 0, 1, 1, 0])) (y := (fcd Tryz.f15 [1, 0, 1, 0, 1, 1, 1, 1, 0, 1, 1, 1])) ?_
  refine V_regionX Γ Δ [] [0, 1, 2, 6, 7, 11, 12, 20, 26, 34, 40, 62] (evs ?_)
  all_goals (try with_reducible (repeat' (first | apply And.intro | intro _)))
  all_goals (try (first | with_reducible refine wa_id ?_ | exact True.intro | omega))
  refine V_cond (evs ?_)
  refine ⟨fun hc => by exact absurd hc (by omega), fun hc => ?_⟩
  refine V_regionX Γ Δ [] [0, 1, 2, 6, 7, 11, 12, 20, 26, 34, 40, 62] (evs ?_)
  all_goals (try with_reducible (repeat' (first | apply And.intro | intro _)))
  all_goals (try (first | with_reducible refine wa_id ?_ | exact True.intro | omega))
  refine V_cond (evs ?_)
  refine ⟨fun hc => by exact absurd hc (by omega), fun hc => ?_⟩
  refine WA_seq (x := (fcd Tryz.f15 [1, 0, 1, 0, 1, 1, 1, 1, 1, 1, 0])) (y := (fcd Tryz.f15 [1, 0, 1, 0, 1, 1, 1, 1, 1, 1, 1])) ?_
  refine V_regionX Γ Δ [] [0, 1, 2, 6, 7, 11, 12, 20, 26, 34, 40, 62] (evs ?_)
  all_goals (try with_reducible (repeat' (first | apply And.intro | intro _)))
  all_goals (try (first | with_reducible refine wa_id ?_ | exact True.intro | omega))
  refine V_cond (evs ?_)
  refine ⟨fun hc => ?_, fun hc => ?_⟩
  · refine WA_seq (x := (fcd Tryz.f15 [1, 0, 1, 0, 1, 1, 1, 1, 1, 1, 1, 0, 0])) (y := (fcd Tryz.f15 [1, 0, 1, 0, 1, 1, 1, 1, 1, 1, 1, 0, 1])) ?_
    refine V_regionX Γ Δ [] [0, 1, 2, 6, 7, 11, 12, 20, 26, 34, 40, 62] (evs ?_)
    have he := hv.2.1 (.inl hc)
    all_goals (try with_reducible (repeat' (first | apply And.intro | intro _)))
    all_goals (try (first | with_reducible refine wa_id ?_ | exact True.intro | exact edge_fn ⟨⟨_, _, _⟩, ⟨_, _⟩, ⟨_, _, _, _⟩, _, _, _⟩ _ _ _ _ _ _ _ (by assumption) | omega))
    refine V_ret (evs ?_)
    first | (have h5 : v.kind = 5 := hc; exact pe (ff5 h5)) | (have h6 : v.kind = 6 := hc; exact pe (ff6 h6)) | (have h9 : v.kind = 9 := hc; exact pe (ff9 h9)) | exact pe (ff10 h10)
  · refine WA_seq (x := (fcd Tryz.f15 [1, 0, 1, 0, 1, 1, 1, 1, 1, 1, 1, 1, 0])) (y := (fcd Tryz.f15 [1, 0, 1, 0, 1, 1, 1, 1, 1, 1, 1, 1, 1])) ?_
    refine V_regionX Γ Δ [] [0, 1, 2, 6, 7, 11, 12, 20, 26, 34, 40, 62] (evs ?_)
    all_goals (try with_reducible (repeat' (first | apply And.intro | intro _)))
    all_goals (try (first | with_reducible refine wa_id ?_ | exact True.intro | omega))
    refine V_cond (evs ?_)
    refine ⟨fun hc => ?_, fun hc => ?_⟩
    · refine WA_seq (x := (fcd Tryz.f15 [1, 0, 1, 0, 1, 1, 1, 1, 1, 1, 1, 1, 1, 0, 0])) (y := (fcd Tryz.f15 [1, 0, 1, 0, 1, 1, 1, 1, 1, 1, 1, 1, 1, 0, 1])) ?_
      refine V_regionX Γ Δ [] [0, 1, 2, 6, 7, 11, 12, 20, 26, 34, 40, 62] (evs ?_)
      have he := hv.2.1 (.inr hc)
      obtain ⟨e1, e2, e3, e4w, e5, e6, e7, e8, e9⟩ := ed_in he
      have hx := he.1
      have m00 := lumF_bd v (x + 1) (y + 1)
      have m01 := lumF_bd v (x + 1) (y - 1)
      have m10 := lumF_bd v (x - 1) (y + 1)
      have m11 := lumF_bd v (x - 1) (y - 1)
      have m22 := lumF_bd v (x + 1) y
      have m23 := lumF_bd v (x - 1) y
      have m24 := lumF_bd v x (y + 1)
      have m25 := lumF_bd v x (y - 1)
      (try simp (maxSteps := 10000000) (disch := omega) only [w64])
      all_goals (try with_reducible (repeat' (first | apply And.intro | intro _)))
      all_goals (try (first | with_reducible refine wa_id ?_ | exact True.intro | exact vluma_fn ⟨⟨_, _, _⟩, ⟨_, _⟩, ⟨_, _, _, _⟩, _, _, _⟩ _ _ _ _ _ _ _ (by assumption) | exact pixel_fn ⟨⟨_, _, _⟩, ⟨_, _⟩, ⟨_, _, _, _⟩, _, _, _⟩ _ _ _ _ _ _ _ (by assumption) | exact gray_fn _ _ | omega))
      refine V_ret (evs ?_)
      first | (have h5 : v.kind = 5 := hc; exact pe (ff5 h5)) | (have h6 : v.kind = 6 := hc; exact pe (ff6 h6)) | (have h9 : v.kind = 9 := hc; exact pe (ff9 h9)) | exact pe (ff10 h10)
    · refine WA_seq (x := (fcd Tryz.f15 [1, 0, 1, 0, 1, 1, 1, 1, 1, 1, 1, 1, 1, 1, 0])) (y := (fcd Tryz.f15 [1, 0, 1, 0, 1, 1, 1, 1, 1, 1, 1, 1, 1, 1, 1])) ?_
      refine V_regionX Γ Δ [] [0, 1, 2, 6, 7, 11, 12, 20, 26, 34, 40, 62] (evs ?_)
      all_goals (try with_reducible (repeat' (first | apply And.intro | intro _)))
      all_goals (try (first | with_reducible refine wa_id ?_ | exact True.intro | omega))
      refine V_cond (evs ?_)
      refine ⟨fun hc => ?_, fun hc => ?_⟩
      · refine WA_seq (x := (fcd Tryz.f15 [1, 0, 1, 0, 1, 1, 1, 1, 1, 1, 1, 1, 1, 1, 1, 0, 0])) (y := (fcd Tryz.f15 [1, 0, 1, 0, 1, 1, 1, 1, 1, 1, 1, 1, 1, 1, 1, 0, 1])) ?_
        refine V_regionX Γ Δ [] [0, 1, 2, 6, 7, 11, 12, 20, 26, 34, 40, 62] (evs ?_)
        have hm := hv.2.2.1 hc
        all_goals (try with_reducible (repeat' (first | apply And.intro | intro _)))
        all_goals (try (first | with_reducible refine wa_id ?_ | exact True.intro | exact motion_fn ⟨⟨_, _, _⟩, ⟨_, _⟩, ⟨_, _, _, _⟩, _, _, _⟩ _ _ _ _ _ _ _ (by assumption) | omega))
        refine V_ret (evs ?_)
        first | (have h5 : v.kind = 5 := hc; exact pe (ff5 h5)) | (have h6 : v.kind = 6 := hc; exact pe (ff6 h6)) | (have h9 : v.kind = 9 := hc; exact pe (ff9 h9)) | exact pe (ff10 h10)
      · refine WA_skip ?_
        refine WA_seq (x := (fcd Tryz.f15 [1, 1, 0])) (y := (fcd Tryz.f15 [1, 1, 1])) ?_
        refine V_regionX Γ Δ [] [0, 1, 2, 6, 7, 11, 12, 20, 26, 34, 40, 62] (evs ?_)
        have h10 : v.kind = 10 := by omega
        have hg := hv.2.2.2 h10
        all_goals (try with_reducible (repeat' (first | apply And.intro | intro _)))
        all_goals (try (first | with_reducible refine wa_id ?_ | exact True.intro | exact pixelate_fn ⟨⟨_, _, _⟩, ⟨_, _⟩, ⟨_, _, _, _⟩, _, _, _⟩ _ _ _ _ _ _ _ (by assumption) | omega))
        refine V_ret (evs ?_)
        first | (have h5 : v.kind = 5 := hc; exact pe (ff5 h5)) | (have h6 : v.kind = 6 := hc; exact pe (ff6 h6)) | (have h9 : v.kind = 9 := hc; exact pe (ff9 h9)) | exact pe (ff10 h10)

end Go.S16

