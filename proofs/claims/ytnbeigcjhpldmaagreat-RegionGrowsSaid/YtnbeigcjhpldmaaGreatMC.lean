import Derived.Test.YtnbeigcjhpldmaaGreatMA
set_option linter.unusedSimpArgs false
set_option linter.unusedVariables false
set_option linter.unusedSimpArgs false
set_option linter.unusedVariables false
namespace Go.Rect
open Go.Eng
theorem mem_grid {x0 y0 : Int} {n : Nat} {t : Pt} : ∀ {m : Nat}, (x0 ≤ t.x ∧ t.x < x0 + n) ∧ (y0 ≤ t.y ∧ t.y < y0 + m) → t ∈ gridL x0 y0 n m
  | 0, h => absurd h.2 (by omega)
  | m + 1, h => by
    rw [gridL, List.mem_append]
    by_cases e : t.y < y0 + m
    · exact .inl (mem_grid ⟨h.1, h.2.1, e⟩)
    · right
      simp only [rowL, List.mem_map, List.mem_range]
      refine ⟨(t.x - x0).toNat, by omega, Pt.ext' ⟨?_, ?_⟩⟩ <;> simp only <;> omega
theorem mem_ins {F : List Pt} {p t : Pt} : t ∈ insP F p ↔ t ∈ F ∨ t = p := by
  unfold insP
  split
  · rename_i h
    exact ⟨.inl, fun h2 => h2.elim id fun e => e ▸ h⟩
  · simp
theorem nod_ins {F : List Pt} {p : Pt} (h : F.Nodup) : (insP F p).Nodup := by
  unfold insP
  split
  · exact h
  · rename_i hp
    rw [List.nodup_append]
    exact ⟨h, by simp, fun a ha b hb e => by simp at hb; subst hb e; exact hp ha⟩
theorem mem_fold : ∀ {l F : List Pt} {t : Pt}, t ∈ l.foldl insP F ↔ t ∈ F ∨ t ∈ l
  | [], F, t => by simp
  | p :: l, F, t => by
    rw [List.foldl_cons, mem_fold, mem_ins, List.mem_cons, or_assoc]
theorem nod_fold : ∀ {l F : List Pt}, F.Nodup → (l.foldl insP F).Nodup
  | [], F, h => h
  | p :: l, F, h => nod_fold (l := l) (nod_ins h)
theorem mem_ft {l : List Rc} {t : Pt} : ∀ {k : Nat}, t ∈ ftK l k ↔ ∃ j, j < k ∧ t ∈ tilesL (l.getD j zR)
  | 0 => by simp [ftK]
  | k + 1 => by
    rw [ftK, mem_fold, mem_ft]
    constructor
    · rintro (⟨j, hj, h⟩ | h)
      · exact ⟨j, by omega, h⟩
      · exact ⟨k, by omega, h⟩
    · rintro ⟨j, hj, h⟩
      by_cases e : j = k
      · subst e; exact .inr h
      · exact .inl ⟨j, by omega, h⟩
theorem nod_ft {l : List Rc} : ∀ k, (ftK l k).Nodup
  | 0 => List.nodup_nil
  | k + 1 => nod_fold (nod_ft k)
theorem nod_len {α : Type} : ∀ {l m : List α}, l.Nodup → (∀ x ∈ l, x ∈ m) → l.length ≤ m.length
  | [], m, _, _ => Nat.zero_le _
  | x :: l, m, hn, hs => by
    obtain ⟨s, t, rfl⟩ := List.append_of_mem (hs x (by simp))
    obtain ⟨h1, h2⟩ := List.nodup_cons.1 hn
    have := nod_len (l := l) (m := s ++ t) h2 fun y hy => by
      have := hs y (by simp [hy])
      simp only [List.mem_append, List.mem_cons] at this ⊢
      rcases this with h | rfl | h
      · exact .inl h
      · exact absurd hy h1
      · exact .inr h
    simp only [List.length_append, List.length_cons] at this ⊢; omega
theorem mem_srt {l : List Pt} {t : Pt} : t ∈ srtPt l ↔ t ∈ l := by rw [srtPt, List.mem_mergeSort]
theorem srt_pt {l : List Pt} (hn : l.Nodup) : (srtPt l).Pairwise fun p q => p.y < q.y ∨ (p.y = q.y ∧ p.x < q.x) := by
  have h1 : (srtPt l).Pairwise fun p q => (decide (p.y < q.y) || (decide (p.y = q.y) && decide (p.x ≤ q.x))) = true := List.pairwise_mergeSort
    (fun a b c h1 h2 => by simp only [Bool.or_eq_true, Bool.and_eq_true, decide_eq_true_eq] at *; omega)
    (fun a b => by simp only [Bool.or_eq_true, Bool.and_eq_true, decide_eq_true_eq]; omega) l
  have h2 : (srtPt l).Nodup := (List.mergeSort_perm l _).nodup_iff.2 hn
  have h3 := h1.and h2
  refine h3.imp fun {p q} h => ?_
  obtain ⟨h, hne⟩ := h
  simp only [Bool.or_eq_true, Bool.and_eq_true, decide_eq_true_eq] at h
  rcases h with h | ⟨h4, h5⟩
  · exact .inl h
  · refine .inr ⟨h4, ?_⟩
    have : p.x ≠ q.x := fun e => hne (Pt.ext' ⟨e, h4⟩)
    omega
theorem tiles_srt (a : List Rc) : (tilesF a).Pairwise fun p q => p.y < q.y ∨ (p.y = q.y ∧ p.x < q.x) := by
  unfold tilesF
  split
  · exact List.Pairwise.nil
  · exact srt_pt (nod_ft _)
theorem tilesF_len (a : List Rc) : (tilesF a).length ≤ 4096 := by
  unfold tilesF
  split
  · simp
  · rename_i h
    rw [srtPt_len]
    refine ft_le fun j hj => ?_
    rw [← Bool.not_eq_true]
    exact fun e => h (List.any_eq_true.2 ⟨j, List.mem_range.2 hj, e⟩)
abbrev zQ : Pt := ⟨0, 0⟩
def fndB (a : List Rc) (p : Pt) (k : Nat) : Bool := (List.range k).any fun j => hasB (ofTileR ((tilesF a).getD j zQ)) p
end Go.Rect

