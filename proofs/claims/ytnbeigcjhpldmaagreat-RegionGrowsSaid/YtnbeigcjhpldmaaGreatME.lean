import Derived.Test.YtnbeigcjhpldmaaGreatMD
set_option linter.unusedSimpArgs false
set_option linter.unusedVariables false
set_option linter.unusedSimpArgs false
set_option linter.unusedVariables false
namespace Go.Rect
open Go.Eng
def ltP (p q : Pt) : Prop := p.y < q.y ∨ (p.y = q.y ∧ p.x < q.x)
theorem ltP_tr {p q r : Pt} (h1 : ltP p q) (h2 : ltP q r) : ltP p r := by unfold ltP at *; omega
theorem ltP_ir {p : Pt} : ¬ ltP p p := by unfold ltP; omega
theorem srt_uniq : ∀ {a b : List Pt}, a.Pairwise ltP → b.Pairwise ltP → (∀ t, t ∈ a ↔ t ∈ b) → a = b
  | [], [], _, _, _ => rfl
  | [], q :: b, _, _, h => absurd ((h q).2 (by simp)) (by simp)
  | p :: a, [], _, _, h => absurd ((h p).1 (by simp)) (by simp)
  | p :: a, q :: b, ha, hb, h => by
    obtain ⟨ha1, ha2⟩ := List.pairwise_cons.1 ha
    obtain ⟨hb1, hb2⟩ := List.pairwise_cons.1 hb
    have e : p = q := by
      rcases List.mem_cons.1 ((h p).1 (by simp)) with h1 | h1
      · exact h1
      · rcases List.mem_cons.1 ((h q).2 (by simp)) with h2 | h2
        · exact h2.symm
        · exact absurd (ltP_tr (ha1 q h2) (hb1 p h1)) ltP_ir
    subst e
    congr 1
    refine srt_uniq ha2 hb2 fun t => ⟨fun h1 => ?_, fun h1 => ?_⟩
    · rcases List.mem_cons.1 ((h t).1 (by simp [h1])) with h2 | h2
      · subst h2; exact absurd (ha1 t h1) ltP_ir
      · exact h2
    · rcases List.mem_cons.1 ((h t).2 (by simp [h1])) with h2 | h2
      · subst h2; exact absurd (hb1 t h1) ltP_ir
      · exact h2
theorem mem_row {y x0 : Int} {n : Nat} {t : Pt} : t ∈ rowL y x0 n ↔ t.y = y ∧ x0 ≤ t.x ∧ t.x < x0 + n := by
  simp only [rowL, List.mem_map, List.mem_range]
  constructor
  · rintro ⟨i, hi, rfl⟩; exact ⟨rfl, by simp only; omega, by simp only; omega⟩
  · rintro ⟨h1, h2, h3⟩
    exact ⟨(t.x - x0).toNat, by omega, Pt.ext' ⟨by simp only; omega, h1.symm⟩⟩
theorem row_srt (y x0 : Int) : ∀ n, (rowL y x0 n).Pairwise ltP
  | 0 => by simp [rowL]
  | n + 1 => by
    rw [rowL_succ, List.pairwise_append]
    refine ⟨row_srt y x0 n, List.pairwise_singleton _ _, fun p hp q hq => ?_⟩
    have := mem_row.1 hp
    rw [List.mem_singleton] at hq; subst hq
    unfold ltP; simp only; omega
def lstR (y : Int) : List Rw → List Pt
  | [] => []
  | p :: l => rowL y p.lo (p.hi - p.lo).toNat ++ lstR y l
theorem mem_lstR {y : Int} {t : Pt} : ∀ {l : List Rw}, Mx l → (t ∈ lstR y l ↔ t.y = y ∧ inR l t.x)
  | [], _ => by simp [lstR, inR]
  | p :: l, hm => by
    rw [lstR, List.mem_append, mem_lstR hm.2.2, mem_row, inR_cons]
    have := hm.1
    constructor
    · rintro (h | h)
      · exact ⟨h.1, .inl (by omega)⟩
      · exact ⟨h.1, .inr h.2⟩
    · rintro ⟨h1, h2 | h2⟩
      · exact .inl ⟨h1, by omega⟩
      · exact .inr ⟨h1, h2⟩
theorem lstR_srt {y : Int} : ∀ {l : List Rw}, Mx l → (lstR y l).Pairwise ltP
  | [], _ => List.Pairwise.nil
  | p :: l, hm => by
    rw [lstR, List.pairwise_append]
    refine ⟨row_srt _ _ _, lstR_srt hm.2.2, fun s hs t ht => ?_⟩
    have h1 := mem_row.1 hs
    have h2 := (mem_lstR hm.2.2).1 ht
    have h3 := mx_tl hm h2.2
    have := hm.1
    unfold ltP; omega
def lstY (rs : List Rw) (y : Int) : Nat → List Pt
  | 0 => []
  | n + 1 => lstY rs y n ++ lstR (y + n) rs
theorem mem_lstY {rs : List Rw} (hm : Mx rs) {y : Int} {t : Pt} : ∀ {n : Nat}, t ∈ lstY rs y n ↔ (y ≤ t.y ∧ t.y < y + n) ∧ inR rs t.x
  | 0 => by simp only [lstY, List.not_mem_nil, false_iff]; omega
  | n + 1 => by
    rw [lstY, List.mem_append, mem_lstY hm, mem_lstR hm]
    constructor
    · rintro (h | h)
      · exact ⟨by omega, h.2⟩
      · exact ⟨by omega, h.2⟩
    · rintro ⟨h1, h2⟩
      by_cases e : t.y < y + n
      · exact .inl ⟨by omega, h2⟩
      · exact .inr ⟨by omega, h2⟩
theorem lstY_srt {rs : List Rw} (hm : Mx rs) {y : Int} : ∀ (n : Nat), (lstY rs y n).Pairwise ltP
  | 0 => List.Pairwise.nil
  | n + 1 => by
    rw [lstY, List.pairwise_append]
    refine ⟨lstY_srt hm n, lstR_srt hm, fun s hs t ht => ?_⟩
    have h1 := (mem_lstY hm).1 hs
    have h2 := (mem_lstR hm).1 ht
    unfold ltP; omega
def lstA : List Bd → List Pt
  | [] => []
  | b :: l => lstY b.rs b.y b.h.toNat ++ lstA l
theorem mem_lstA {t : Pt} : ∀ {l : List Bd}, CanB l → (t ∈ lstA l ↔ inBd l t.x t.y)
  | [], _ => by simp [lstA, inBd]
  | b :: l, hc => by
    rw [lstA, List.mem_append, mem_lstA hc.2.2, mem_lstY hc.1.2.1, inB_cons]
    have := hc.1.2.2
    constructor
    · rintro (h | h)
      · exact .inl ⟨by omega, h.2⟩
      · exact .inr h
    · rintro (h | h)
      · exact .inl ⟨by omega, h.2⟩
      · exact .inr h
theorem lstA_srt : ∀ {l : List Bd}, CanB l → (lstA l).Pairwise ltP
  | [], _ => List.Pairwise.nil
  | b :: l, hc => by
    rw [lstA, List.pairwise_append]
    refine ⟨lstY_srt hc.1.2.1 _, lstA_srt hc.2.2, fun s hs t ht => ?_⟩
    have h1 := (mem_lstY hc.1.2.1).1 hs
    have h2 := cb_tl hc ((mem_lstA hc.2.2).1 ht)
    have := hc.1.2.2
    unfold ltP; omega
end Go.Rect

