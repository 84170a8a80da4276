import Derived.Test.YtnbeigcjhpldmaaGreatME
set_option linter.unusedSimpArgs false
set_option linter.unusedVariables false
set_option linter.unusedSimpArgs false
set_option linter.unusedVariables false
namespace Go.Rect
open Go.Eng
theorem til_mem {r : Rc} {t : Pt} (h : tilesL r ≠ []) : t ∈ tilesL r ↔ hasI (trR r) t.x t.y := by
  obtain ⟨he, hg⟩ := tiles_def h
  have hn := NN he
  rw [hg, tr_in he]
  constructor
  · intro h1; have := grid_mem h1; omega
  · intro h1; exact mem_grid (by omega)
def tlS (a : List Rc) : List Bd := canL (rowKp orB (trL a) []) [] (hgtF (trL a) [])
theorem tlS_can (a : List Rc) : CanB (tlS a) := (cano_spec (keep := orB) rfl (trL_wd a) (fun r h => by cases h)).1
theorem tlS_flat (a : List Rc) : flatB (tlS a) = tlC a := by
  rw [tlC, canoF, trL_els]; rfl
theorem tlS_mem (a : List Rc) (t : Pt) : t ∈ lstA (tlS a) ↔ ∃ r ∈ els a, hasI (trR r) t.x t.y := by
  rw [mem_lstA (tlS_can a), ← flat_in, tlS_flat, tlC_in]
theorem ltP_nod {l : List Pt} (h : l.Pairwise ltP) : l.Nodup := h.imp fun {p q} h e => by subst e; exact ltP_ir h
theorem tf_list {a : List Rc} (h : (List.range (els a).length).any (badT (els a)) = false) : tilesF a = lstA (tlS a) := by
  refine srt_uniq (tiles_srt a) (lstA_srt (tlS_can a)) fun t => ?_
  rw [tlS_mem, tilesF, h]
  simp only [Bool.false_eq_true, if_false]
  rw [mem_srt, mem_ft]
  have hne : ∀ j, j < (els a).length → tilesL ((els a).getD j zR) ≠ [] := fun j hj e => by
    rw [← Bool.not_eq_true, List.any_eq_true] at h
    exact h ⟨j, List.mem_range.2 hj, by rw [badT, e]; rfl⟩
  constructor
  · rintro ⟨j, hj, ht⟩
    exact ⟨_, gD_mem hj, (til_mem (hne j hj)).1 ht⟩
  · rintro ⟨r, hr, ht⟩
    obtain ⟨j, hj, rfl⟩ := List.getElem_of_mem hr
    have e : (els a).getD j zR = (els a)[j] := by simp [List.getD_eq_getElem?_getD, List.getElem?_eq_getElem hj]
    exact ⟨j, hj, (til_mem (hne j hj)).2 (by rw [e]; exact ht)⟩
theorem tf_small {a : List Rc} (h : (List.range (els a).length).any (badT (els a)) = false) : (lstA (tlS a)).length ≤ 4096 := by
  rw [← tf_list h]; exact tilesF_len a
theorem grid_srt {x0 y0 : Int} {n : Nat} : ∀ m, (gridL x0 y0 n m).Pairwise ltP
  | 0 => List.Pairwise.nil
  | m + 1 => by
    rw [gridL, List.pairwise_append]
    refine ⟨grid_srt m, row_srt _ _ _, fun s hs t ht => ?_⟩
    have h1 := grid_mem hs
    have h2 := mem_row.1 ht
    unfold ltP; omega
theorem tf_big {a : List Rc} (h : (List.range (els a).length).any (badT (els a)) = true) : 4096 < (lstA (tlS a)).length := by
  rw [List.any_eq_true] at h
  obtain ⟨k, hk, hb⟩ := h
  rw [List.mem_range] at hk
  unfold badT at hb
  simp only [Bool.or_eq_true, decide_eq_true_eq] at hb
  rcases hb with hb | hb
  · have hr := gD_mem (d := zR) hk
    have he := els_wd a _ hr
    have hn := NN he
    have hbig : 4096 < NY ((els a).getD k zR) * NX ((els a).getD k zR) := by
      have h0 : tilesL ((els a).getD k zR) = [] := List.eq_nil_of_length_eq_zero hb
      generalize (els a).getD k zR = r at *
      unfold tilesL at h0
      rw [if_neg (by rw [he]; simp), ← hn.1, ← hn.2] at h0
      split at h0
      · rename_i h1
        have h2 : ((4096 : Nat) : Int) < ((NX r * NY r : Nat) : Int) := by rw [Int.natCast_mul]; omega
        rw [Nat.mul_comm]; omega
      · have h3 := congrArg List.length h0
        have h4 : (gridL (tileI r.x) (tileI r.y) (NX r) (NY r)).length = 0 := by simpa using h3
        rw [grid_len] at h4
        have hr' := empty_spec.1 he
        have : 1 ≤ NY r ∧ 1 ≤ NX r := by unfold NX NY tileI; omega
        have := Nat.mul_le_mul this.1 this.2
        omega
    have hl := nod_len (ltP_nod (grid_srt (x0 := tileI ((els a).getD k zR).x) (y0 := tileI ((els a).getD k zR).y) (n := NX ((els a).getD k zR)) (NY ((els a).getD k zR)))) (m := lstA (tlS a)) fun t ht => by
      have := grid_mem ht
      exact (tlS_mem a t).2 ⟨_, hr, (tr_in he _ _).2 (by omega)⟩
    rw [grid_len] at hl
    omega
  · have hl := nod_len (nod_ft (l := els a) (k + 1)) (m := lstA (tlS a)) fun t ht => by
      obtain ⟨j, hj, ht⟩ := mem_ft.1 ht
      exact (tlS_mem a t).2 ⟨_, gD_mem (by omega), (til_mem (List.ne_nil_of_mem ht)).1 ht⟩
    omega
end Go.Rect

