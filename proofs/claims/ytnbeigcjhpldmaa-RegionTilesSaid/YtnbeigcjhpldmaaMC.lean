import Derived.Test.YtnbeigcjhpldmaaMA
set_option linter.unusedSimpArgs false
set_option linter.unusedVariables false
set_option linter.unusedSimpArgs false
set_option linter.unusedVariables false
namespace Go.Rect
open Go.Eng
/-! ### Tiles of a region -/
theorem mem_grid {x0 y0 : Int} {n : Nat} {t : Pt} : ∀ {m : Nat}, (x0 ≤ t.x ∧ t.x < x0 + n) ∧ (y0 ≤ t.y ∧ t.y < y0 + m) → t ∈ gridL x0 y0 n m
  | 0, h => absurd h.2 (by omega)
  | m + 1, h => by
    rw [gridL, List.mem_append]
    by_cases e : t.y < y0 + m
    · exact .inl (mem_grid ⟨h.1, h.2.1, e⟩)
    · right
      simp only [rowL, List.mem_map, List.mem_range]
      refine ⟨(t.x - x0).toNat, by omega, Pt.ext' ⟨?_, ?_⟩⟩ <;> simp only <;> omega
theorem mem_ins {F : List Pt} {p t : Pt} : t ∈ insP F p ↔ t ∈ F ∨ t = p := by
  unfold insP
  split
  · rename_i h
    exact ⟨.inl, fun h2 => h2.elim id fun e => e ▸ h⟩
  · simp
theorem nod_ins {F : List Pt} {p : Pt} (h : F.Nodup) : (insP F p).Nodup := by
  unfold insP
  split
  · exact h
  · rename_i hp
    rw [List.nodup_append]
    exact ⟨h, by simp, fun a ha b hb e => by simp at hb; subst hb e; exact hp ha⟩
theorem mem_fold : ∀ {l F : List Pt} {t : Pt}, t ∈ l.foldl insP F ↔ t ∈ F ∨ t ∈ l
  | [], F, t => by simp
  | p :: l, F, t => by
    rw [List.foldl_cons, mem_fold, mem_ins, List.mem_cons, or_assoc]
theorem nod_fold : ∀ {l F : List Pt}, F.Nodup → (l.foldl insP F).Nodup
  | [], F, h => h
  | p :: l, F, h => nod_fold (l := l) (nod_ins h)
theorem mem_ft {l : List Rc} {t : Pt} : ∀ {k : Nat}, t ∈ ftK l k ↔ ∃ j, j < k ∧ t ∈ tilesL (l.getD j zR)
  | 0 => by simp [ftK]
  | k + 1 => by
    rw [ftK, mem_fold, mem_ft]
    constructor
    · rintro (⟨j, hj, h⟩ | h)
      · exact ⟨j, by omega, h⟩
      · exact ⟨k, by omega, h⟩
    · rintro ⟨j, hj, h⟩
      by_cases e : j = k
      · subst e; exact .inr h
      · exact .inl ⟨j, by omega, h⟩
theorem nod_ft {l : List Rc} : ∀ k, (ftK l k).Nodup
  | 0 => List.nodup_nil
  | k + 1 => nod_fold (nod_ft k)
theorem nod_len {α : Type} : ∀ {l m : List α}, l.Nodup → (∀ x ∈ l, x ∈ m) → l.length ≤ m.length
  | [], m, _, _ => Nat.zero_le _
  | x :: l, m, hn, hs => by
    obtain ⟨s, t, rfl⟩ := List.append_of_mem (hs x (by simp))
    obtain ⟨h1, h2⟩ := List.nodup_cons.1 hn
    have := nod_len (l := l) (m := s ++ t) h2 fun y hy => by
      have := hs y (by simp [hy])
      simp only [List.mem_append, List.mem_cons] at this ⊢
      rcases this with h | rfl | h
      · exact .inl h
      · exact absurd hy h1
      · exact .inr h
    simp only [List.length_append, List.length_cons] at this ⊢; omega
theorem mem_srt {l : List Pt} {t : Pt} : t ∈ srtPt l ↔ t ∈ l := by rw [srtPt, List.mem_mergeSort]
theorem mem_tiles {a : List Rc} {t : Pt} (h : t ∈ tilesF a) : ∃ r ∈ els a, t ∈ tilesL r := by
  unfold tilesF at h
  split at h
  · cases h
  · rw [mem_srt, mem_ft] at h
    obtain ⟨j, hj, h⟩ := h
    exact ⟨_, gD_mem hj, h⟩
/-- strictly in order -/
theorem srt_pt {l : List Pt} (hn : l.Nodup) : (srtPt l).Pairwise fun p q => p.y < q.y ∨ (p.y = q.y ∧ p.x < q.x) := by
  have h1 : (srtPt l).Pairwise fun p q => (decide (p.y < q.y) || (decide (p.y = q.y) && decide (p.x ≤ q.x))) = true := List.pairwise_mergeSort
    (fun a b c h1 h2 => by simp only [Bool.or_eq_true, Bool.and_eq_true, decide_eq_true_eq] at *; omega)
    (fun a b => by simp only [Bool.or_eq_true, Bool.and_eq_true, decide_eq_true_eq]; omega) l
  have h2 : (srtPt l).Nodup := (List.mergeSort_perm l _).nodup_iff.2 hn
  have h3 := h1.and h2
  refine h3.imp fun {p q} h => ?_
  obtain ⟨h, hne⟩ := h
  simp only [Bool.or_eq_true, Bool.and_eq_true, decide_eq_true_eq] at h
  rcases h with h | ⟨h4, h5⟩
  · exact .inl h
  · refine .inr ⟨h4, ?_⟩
    have : p.x ≠ q.x := fun e => hne (Pt.ext' ⟨e, h4⟩)
    omega
theorem tiles_srt (a : List Rc) : (tilesF a).Pairwise fun p q => p.y < q.y ∨ (p.y = q.y ∧ p.x < q.x) := by
  unfold tilesF
  split
  · exact List.Pairwise.nil
  · exact srt_pt (nod_ft _)
theorem tilesF_len (a : List Rc) : (tilesF a).length ≤ 4096 := by
  unfold tilesF
  split
  · simp
  · rename_i h
    rw [srtPt_len]
    refine ft_le fun j hj => ?_
    rw [← Bool.not_eq_true]
    exact fun e => h (List.any_eq_true.2 ⟨j, List.mem_range.2 hj, e⟩)
abbrev zQ : Pt := ⟨0, 0⟩
theorem tz_2 {a : List Rc} {k : Nat} (hk : (k : Int) < ((tilesF a).length : Int)) (h : 0 < (k : Int) ∧ (((tilesF a).getD k zQ).y < ((tilesF a).getD (k - 1) zQ).y ∨ (((tilesF a).getD k zQ).y = ((tilesF a).getD (k - 1) zQ).y ∧ ((tilesF a).getD k zQ).x ≤ ((tilesF a).getD (k - 1) zQ).x))) : False := by
  have hp := List.pairwise_iff_getElem.1 (tiles_srt a) (k - 1) k (by omega) (by omega) (by omega)
  have e1 : (tilesF a).getD k zQ = (tilesF a)[k]'(by omega) := by simp [List.getD_eq_getElem?_getD, List.getElem?_eq_getElem (show k < (tilesF a).length by omega)]
  have e2 : (tilesF a).getD (k - 1) zQ = (tilesF a)[k - 1]'(by omega) := by simp [List.getD_eq_getElem?_getD, List.getElem?_eq_getElem (show k - 1 < (tilesF a).length by omega)]
  rw [e1, e2] at h
  omega
/-- a tile of the list has a pixel of the region -/
theorem tz_pt {a : List Rc} {t : Pt} (h : t ∈ tilesF a) : ∃ x y, inLs (els a) x y ∧ hasI (ofTileR t) x y ∧ emptyB (ofTileR t) = false := by
  obtain ⟨r, hr, ht⟩ := mem_tiles h
  obtain ⟨he, hg⟩ := tiles_def (List.ne_nil_of_mem ht)
  rw [hg] at ht
  have hm := grid_mem ht
  have hr' := empty_spec.1 he
  simp only [NX, NY] at hm
  unfold tileI at hm
  have e : ofTileR t = ⟨t.x * 16, t.y * 16, 16, 16⟩ := by rw [ofTileR, if_neg (by omega)]
  rw [e]
  refine ⟨max r.x (t.x * 16), max r.y (t.y * 16), ⟨r, hr, by unfold hasI; omega⟩, by unfold hasI; simp only; omega, by rw [empty_spec]; simp only; omega⟩
theorem tz_1 {a : List Rc} {k : Nat} (hk : (k : Int) < ((tilesF a).length : Int)) (h : ((canoF andB a [ofTileR ((tilesF a).getD k zQ)]).length : Int) = 0) : False := by
  obtain ⟨x, y, h1, h2, h3⟩ := tz_pt (gD_mem (d := zQ) (l := tilesF a) (k := k) (by omega))
  have e : canoF andB a [ofTileR ((tilesF a).getD k zQ)] = [] := List.eq_nil_of_length_eq_zero (by omega)
  have hb : inLb [ofTileR ((tilesF a).getD k zQ)] x y = true := inLb_in.2 ⟨_, List.mem_singleton.2 rfl, h2⟩
  have := and_in a [ofTileR ((tilesF a).getD k zQ)] x y
  rw [e, els_id (a := [ofTileR ((tilesF a).getD k zQ)]) (fun r hr => by rw [List.mem_singleton] at hr; subst hr; exact h3) (by simp), inLb_in.2 h1, hb] at this
  simp [inLb] at this
theorem lo_le {f : Rc → Int} {l : List Rc} : ∀ {k j : Nat}, j < k → loK f l k ≤ f (l.getD j zR)
  | k + 1, j, h => by
    rw [loK]
    by_cases e : j = k
    · subst e; split <;> omega
    · have := lo_le (f := f) (l := l) (k := k) (j := j) (by omega)
      split <;> omega
theorem hi_le {f : Rc → Int} {l : List Rc} : ∀ {k j : Nat}, j < k → f (l.getD j zR) ≤ hiK f l k
  | k + 1, j, h => by
    rw [hiK]
    by_cases e : j = k
    · subst e; split <;> omega
    · have := hi_le (f := f) (l := l) (k := k) (j := j) (by omega)
      split <;> omega
/-- no rectangle is refused where the box is small -/
theorem tz_ok {a : List Rc} (hw : ((boxL (els a)).w : Int) ≤ 1000 ∧ (boxL (els a)).h ≤ 1000) : (List.range (els a).length).any (badT (els a)) = false := by
  rw [← Bool.not_eq_true, List.any_eq_true]
  rintro ⟨k, hk, hb⟩
  rw [List.mem_range] at hk
  have hbx := box_bd (k := (els a).length) (els_wd a) (by omega) (Nat.le_refl _) (Int.le_refl _)
  obtain ⟨e, b1, b2⟩ := hbx
  rw [e] at hw
  simp only at hw
  have key : ∀ j, j < (els a).length → (loK Rc.x (els a) (els a).length ≤ ((els a).getD j zR).x ∧ ((els a).getD j zR).x + ((els a).getD j zR).w ≤ hiK rgtE (els a) (els a).length) ∧ (loK Rc.y (els a) (els a).length ≤ ((els a).getD j zR).y ∧ ((els a).getD j zR).y + ((els a).getD j zR).h ≤ hiK botE (els a) (els a).length) :=
    fun j hj => ⟨⟨lo_le (f := Rc.x) hj, hi_le (f := rgtE) hj⟩, lo_le (f := Rc.y) hj, hi_le (f := botE) hj⟩
  generalize loK Rc.x (els a) (els a).length = X0 at *
  generalize loK Rc.y (els a) (els a).length = Y0 at *
  generalize hiK rgtE (els a) (els a).length = X1 at *
  generalize hiK botE (els a) (els a).length = Y1 at *
  have hall : ∀ t ∈ ftK (els a) (k + 1), t ∈ gridL (tileI X0) (tileI Y0) 64 64 := fun t ht => by
    obtain ⟨j, hj, ht⟩ := mem_ft.1 ht
    obtain ⟨he, hg⟩ := tiles_def (List.ne_nil_of_mem ht)
    rw [hg] at ht
    have hm := grid_mem ht
    have hr' := empty_spec.1 he
    have hkj := key j (by omega)
    simp only [NX, NY] at hm
    refine mem_grid ?_
    unfold tileI at hm ⊢
    omega
  have h1 := nod_len (nod_ft (k + 1)) hall
  rw [grid_len] at h1
  have hkk := key k hk
  have he := els_wd a _ (gD_mem (d := zR) hk)
  have hr' := empty_spec.1 he
  have h2 : tilesL ((els a).getD k zR) ≠ [] := by
    generalize (els a).getD k zR = r at *
    have hc1 : 1 ≤ tileI (r.x + r.w - 1) - tileI r.x + 1 ∧ tileI (r.x + r.w - 1) - tileI r.x + 1 ≤ 64 := by unfold tileI; omega
    have hc2 : 1 ≤ tileI (r.y + r.h - 1) - tileI r.y + 1 ∧ tileI (r.y + r.h - 1) - tileI r.y + 1 ≤ 64 := by unfold tileI; omega
    have hprod : (tileI (r.x + r.w - 1) - tileI r.x + 1) * (tileI (r.y + r.h - 1) - tileI r.y + 1) ≤ 64 * 64 := Int.mul_le_mul hc1.2 hc2.2 (by omega) (by omega)
    rw [tilesL, if_neg (by rw [he]; simp), if_neg (by omega)]
    exact List.ne_nil_of_mem (mem_grid (t := ⟨tileI r.x, tileI r.y⟩) (by simp only; omega))
  have h3 := List.length_pos_iff.2 h2
  unfold badT at hb
  simp only [Bool.or_eq_true, decide_eq_true_eq] at hb
  omega
def fndB (a : List Rc) (p : Pt) (k : Nat) : Bool := (List.range k).any fun j => hasB (ofTileR ((tilesF a).getD j zQ)) p
theorem fnd_y {a : List Rc} {p : Pt} {k : Nat} (h : hasB (ofTileR ((tilesF a).getD k zQ)) p = true) : true = fndB a p (k + 1) := by
  rw [fndB, List.range_succ, List.any_append]; simp only [List.any_cons, List.any_nil, Bool.or_false, h, Bool.or_true]
theorem fnd_n {a : List Rc} {p : Pt} {k : Nat} (h : hasB (ofTileR ((tilesF a).getD k zQ)) p = false) : fndB a p k = fndB a p (k + 1) := by
  rw [fndB, fndB, List.range_succ, List.any_append]; simp only [List.any_cons, List.any_nil, Bool.or_false, h]
/-- the tile of each pixel of the region is in the list -/
theorem tz_3 {a : List Rc} {p : Pt} {k : Nat} (hw : ((boxL (els a)).w : Int) ≤ 1000 ∧ (boxL (els a)).h ≤ 1000) (hI : k ≤ (tilesF a).length) (hk : ((tilesF a).length : Int) ≤ (k : Int)) : fndB a p k = true ∨ hasR a p = false := by
  by_cases hh : hasR a p = true
  · left
    rw [← rhas_2, inLb_in] at hh
    obtain ⟨r, hr, hh⟩ := hh
    obtain ⟨j, hj, rfl⟩ := List.getElem_of_mem hr
    have hbad := tz_ok hw
    have hbj : badT (els a) j = false := by
      rw [← Bool.not_eq_true] at hbad ⊢
      exact fun e => hbad (List.any_eq_true.2 ⟨j, List.mem_range.2 hj, e⟩)
    have hgj : (els a).getD j zR = (els a)[j] := by simp [List.getD_eq_getElem?_getD, List.getElem?_eq_getElem hj]
    have hne : tilesL ((els a).getD j zR) ≠ [] := fun e => by rw [badT, e] at hbj; simp at hbj
    obtain ⟨he, hg⟩ := tiles_def hne
    have hr' := empty_spec.1 he
    rw [hgj] at hr' hg hne he
    unfold hasI at hh
    have ht : (⟨tileI p.x, tileI p.y⟩ : Pt) ∈ tilesF a := by
      rw [tilesF, hbad]
      simp only [Bool.false_eq_true, if_false]
      rw [mem_srt, mem_ft]
      refine ⟨j, hj, ?_⟩
      rw [hgj, hg]
      refine mem_grid ?_
      simp only [NX, NY]
      unfold tileI
      omega
    obtain ⟨i, hi, ei⟩ := List.getElem_of_mem ht
    rw [fndB, List.any_eq_true]
    refine ⟨i, List.mem_range.2 (by omega), ?_⟩
    have e2 : (tilesF a).getD i zQ = ⟨tileI p.x, tileI p.y⟩ := by rw [← ei]; simp [List.getD_eq_getElem?_getD, List.getElem?_eq_getElem hi]
    have e3 : ofTileR ⟨tileI p.x, tileI p.y⟩ = ⟨tileI p.x * 16, tileI p.y * 16, 16, 16⟩ := by
      rw [ofTileR, if_neg]; unfold tileI; simp only; omega
    rw [e2, e3, hasB_I, decide_eq_true_eq]
    · unfold hasI tileI; simp only; omega
    · rw [empty_spec]; unfold tileI; simp only; omega
  · right; simpa using hh
end Go.Rect

