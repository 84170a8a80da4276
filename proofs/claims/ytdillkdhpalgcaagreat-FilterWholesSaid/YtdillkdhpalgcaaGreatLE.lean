import Derived.Test.YtdillkdhpalgcaaGreatLD
set_option linter.unusedSimpArgs false
set_option linter.unusedVariables false
set_option linter.unusedSimpArgs false
set_option linter.unusedVariables false
namespace Go.Rect
open Go.Eng
theorem pas_tab : ∀ k, k < 15 → ∀ j, j < 16 → 0 ≤ pF k j ∧ pF k j ≤ 3432 := by decide +kernel
theorem pas_len : ∀ n, (pascal n).length = n + 1
  | 0 => rfl
  | n + 1 => by simp [pascal, pas_len n]
theorem pas_bd {k : Nat} (hk : k ≤ 14) (j : Nat) : 0 ≤ pF k j ∧ pF k j ≤ 3432 := by
  by_cases h : j < 16
  · exact pas_tab k (by omega) j h
  · rw [pF, List.getD_eq_getElem?_getD, List.getElem?_eq_none (by rw [pas_len]; omega)]; simp
theorem pas_q : ∀ n, n < 15 → ∀ i, i < 15 → 1 ≤ i → i ≤ n → (pF n (i - 1) * ((n : Int) - i + 1)).tdiv i = pF n i := by decide +kernel
theorem pas_0 : ∀ n, n < 15 → pF n 0 = 1 := by decide +kernel
theorem fil_get {n k i : Nat} {f : Nat → Int} (hi : i < k) (hn : i < n) : (fil n f k).getD i 0 = f i := by rw [fil, tab_getD hn, if_pos hi]
theorem bnS {k i : Nat} (hk : k ≤ 14) (h1 : 1 ≤ i) (h2 : (i : Int) ≤ (k : Int)) : (IntKind.i64.wrap ((fil (k + 1) (pF k) i).getD ((i : Int) - 1).toNat 0 * ((k : Int) - i + 1))).tdiv i = pF k i := by
  have e : ((i : Int) - 1).toNat = i - 1 := by omega
  rw [e, fil_get (by omega) (by omega)]
  have b := pas_bd hk (i - 1)
  have b2 := Int.mul_le_mul b.2 (show (k : Int) - i + 1 ≤ 14 by omega) (by omega) (by omega)
  have b3 := Int.mul_nonneg b.1 (show 0 ≤ (k : Int) - i + 1 by omega)
  rw [w64 (by omega) (by omega)]
  exact pas_q k (by omega) i (by omega) h1 (by omega)
theorem bin_1 {k : Nat} (hk : k ≤ 14) : ((List.replicate (k + 1) (0 : Int)).set 0 1).map iC = (fil (k + 1) (pF k) 1).map iC := by
  rw [fil_0 (k + 1) (pF k), fil_set (pas_0 k (by omega)).symm]
theorem p2 : ∀ k : Nat, k < 29 → (1 : Int) ≤ 2 ^ k ∧ (2 : Int) ^ k ≤ 268435456 ∧ (2 : Int) ^ k * 2 = 2 ^ (k + 1) := by decide +kernel
def gK (m : Mk) (x y n j i : Int) : Int := growK m x y n n.natAbs (j + n.natAbs).toNat (i + n.natAbs).toNat
def MbOk (m : Mk) (b : B4) : Prop := b = mb0 m ∨ (0 ≤ b.x0 ∧ b.x0 ≤ b.x1 ∧ b.x1 < m.w ∧ 0 ≤ b.y0 ∧ b.y0 ≤ b.y1 ∧ b.y1 < m.h)
end Go.Rect

set_option linter.unusedSimpArgs false
set_option linter.unusedVariables false
namespace Go.Rect
open Go.Eng
theorem toN1 (k : Nat) : ((k : Int) + 1).toNat = k + 1 := by omega
end Go.Rect

set_option linter.unusedSimpArgs false
set_option linter.unusedVariables false
namespace Go.Rect
open Go.Eng
theorem iszE {m : Im} : okIm m = (isz m.w m.h && decide ((m.p.length : Int) = m.w * m.h)) := rfl
theorem isz_z {w h : Int} (h1 : isz w h = true) : Z0 w h := by
  simp only [isz, Bool.and_eq_true, decide_eq_true_eq] at h1; unfold Z0; omega
theorem isz_w {w h : Int} (h1 : isz w h = true) : IntKind.i64.wrap (w * h) = w * h := by rw [wN (isz_z h1), nnE (isz_z h1)]
theorem ik_1 {m : Im} (hc : isz m.w m.h = false ∨ ¬ (m.p.length : Int) = IntKind.i64.wrap (m.w * m.h)) : 15 = ichkE m := by
  have : okIm m = false := by
    rw [iszE]
    cases h : isz m.w m.h
    · rfl
    · rcases hc with hc | hc
      · rw [hc] at h; cases h
      · rw [isz_w h] at hc; simp [hc]
  rw [ichkE, this]; rfl
theorem ik_S {m : Im} (hc : isz m.w m.h = true ∧ (m.p.length : Int) = IntKind.i64.wrap (m.w * m.h)) : okIm m = true := by
  have := hc.2
  rw [isz_w hc.1] at this
  rw [iszE, hc.1]; simp [this]
theorem ik_3 {m : Im} {k : Nat} (h : okIm m = true) (hk : (k : Int) < (m.p.length : Int)) (hc : validP (m.p.getD k zP) = false) : 2 = ichkE m := by
  have : m.p.all validP = false := by
    rw [Bool.eq_false_iff]; intro g
    rw [List.all_eq_true] at g
    have := g _ (getD_mem (z := zP) hk)
    rw [hc] at this; cases this
  rw [ichkE, h, this]; rfl
theorem ik_4 {m : Im} {k : Nat} (h : okIm m = true) (hI : (m.p.take k).all validP = true) (hk : (m.p.length : Int) ≤ (k : Int)) : 0 = ichkE m := by
  rw [List.take_of_length_le (by omega)] at hI
  rw [ichkE, h, hI]; rfl
theorem ic5 {m : Im} {k : Nat} (hI : (m.p.take k).all validP = true) (hk : (k : Int) < (m.p.length : Int)) (hc : validP (m.p.getD k zP) = true) : (m.p.take (k + 1)).all validP = true := by
  rw [take_succ' (z := zP) hk, List.all_append, hI]; simp only [List.all_cons, hc, List.all_nil, Bool.and_self]
theorem ik_r1 {m : Im} (hc : ((m.w < 0 ∨ 256 < m.w) ∨ m.h < 0) ∨ 256 < m.h) : 15 = ichkE m := by
  have : okIm m = false := by
    rw [Bool.eq_false_iff]; intro g
    simp only [okIm, Bool.and_eq_true, decide_eq_true_eq] at g; omega
  rw [ichkE, this]; rfl
theorem ik_r2 {m : Im} (hc : ¬ ((m.w == 0) = (m.h == 0)) ∨ ¬ (m.p.length : Int) = m.w * m.h) : 15 = ichkE m := by
  have : okIm m = false := by
    rw [Bool.eq_false_iff]; intro g
    simp only [okIm, Bool.and_eq_true, decide_eq_true_eq, beq_iff_eq] at g
    rcases hc with hc | hc
    · exact hc g.1.2
    · exact hc g.2
  rw [ichkE, this]; rfl
theorem ik_rS {m : Im} (h1 : ((0 ≤ m.w ∧ m.w ≤ 256) ∧ 0 ≤ m.h) ∧ m.h ≤ 256) (h2 : (m.w == 0) = (m.h == 0) ∧ (m.p.length : Int) = m.w * m.h) : okIm m = true := by
  simp only [okIm, Bool.and_eq_true, decide_eq_true_eq, beq_iff_eq]
  exact ⟨⟨⟨⟨⟨h1.1.1.1, h1.1.1.2⟩, h1.1.2⟩, h1.2⟩, h2.1⟩, h2.2⟩
theorem ichk0 {m : Im} (h : ichkE m = 0) : Z0 m.w m.h ∧ (m.w = 0 ↔ m.h = 0) ∧ m.p.length = nn m.w m.h ∧ ∀ k, k < m.p.length → validP (m.p.getD k zP) = true := by
  unfold ichkE at h
  split at h
  · next g =>
    split at h
    · next a =>
      simp only [okIm, Bool.and_eq_true, decide_eq_true_eq, beq_iff_eq] at g
      have hz : Z0 m.w m.h := by unfold Z0; omega
      refine ⟨hz, ?_, ?_, fun k hk => ?_⟩
      · have := g.1.2
        constructor
        · intro e; rw [e] at this; simpa using this.symm
        · intro e; rw [e] at this; simpa using this
      · have := nnE hz; omega
      · rw [List.all_eq_true] at a
        exact a _ (getD_mem (z := zP) (k := k) (l := m.p) (by omega))
    · omega
  · omega
theorem filP_get0 (l : List Px) : l = tabP l.length (fun k => l.getD k zP) := by
  apply List.ext_getElem?
  intro i
  by_cases h : i < l.length
  · simp [tabP, List.getElem?_range h, h]
  · rw [List.getElem?_eq_none (by omega), List.getElem?_eq_none (by rw [tabP_len]; omega)]
theorem tabP_ext {n : Nat} {f g : Nat → Px} (h : ∀ k, k < n → f k = g k) : tabP n f = tabP n g := by
  apply List.map_congr_left; intro k hk; exact h k (by simpa using hk)
theorem tabP_set {n k : Nat} {f : Nat → Px} {v : Px} : (tabP n f).set k v = tabP n (fun j => if j = k then v else f j) := by
  apply List.ext_getElem?
  intro i
  rw [List.getElem?_set]
  by_cases h : i < n
  · by_cases e : k = i
    · subst e; simp [tabP, List.getElem?_range h, h]
    · have e2 : ¬ i = k := fun g => e g.symm
      simp [tabP, List.getElem?_range h, e, e2]
  · rw [List.getElem?_eq_none (l := tabP n fun j => if j = k then v else f j) (by rw [tabP_len]; omega)]
    by_cases e : k = i
    · subst e; simp [tabP_len, h]
    · rw [if_neg e, List.getElem?_eq_none (by rw [tabP_len]; omega)]
theorem filP_set {n k : Nat} {f g : Nat → Px} {v : Px} (h : v = f k) : (filP n f g k).set k v = filP n f g (k + 1) := by
  rw [filP, tabP_set, filP]
  apply tabP_ext
  intro i hi
  by_cases e : i = k
  · subst e; simp [h]
  · simp only [if_neg e]
    by_cases q : i < k
    · rw [if_pos q, if_pos (by omega)]
    · rw [if_neg q, if_neg (by omega)]
theorem filP_skip {n k : Nat} {f g : Nat → Px} (h : g k = f k) : filP n f g k = filP n f g (k + 1) := by
  rw [filP, filP]
  apply tabP_ext
  intro i hi
  by_cases e : i = k
  · subst e; rw [if_neg (by omega), if_pos (by omega), h]
  · by_cases q : i < k
    · rw [if_pos q, if_pos (by omega)]
    · rw [if_neg q, if_neg (by omega)]
theorem filP_all {n k : Nat} {f g : Nat → Px} (h : ∀ i, k ≤ i → i < n → g i = f i) : filP n f g k = tabP n f := by
  rw [filP]; apply tabP_ext; intro i hi
  by_cases q : i < k
  · rw [if_pos q]
  · rw [if_neg q, h i (by omega) hi]
theorem filP_setC {n k : Nat} {f g : Nat → Px} {v : Px} (h : v = f k) : ((filP n f g k).set k v).map pxC = (filP n f g (k + 1)).map pxC := by rw [filP_set h]
theorem tabP_succ (n : Nat) (f : Nat → Px) : tabP (n + 1) f = tabP n f ++ [f n] := by simp [tabP, List.range_succ]
theorem tabP_app {n : Nat} {f : Nat → Px} {v : Px} (h : v = f n) : (tabP n f).map pxC ++ [[.i v.r, .i v.g, .i v.b, .i v.a]] = (tabP (n + 1) f).map pxC := by rw [tabP_succ, h]; simp [pxC]
def mxG (a b : Im) (m : Mk) (k : Nat) : Px := if orU m k = 0 then a.p.getD k zP else mixP (a.p.getD k zP) (b.p.getD k zP) (orU m k)
theorem px_neB {p q : Px} (hc : (p.r == q.r && (p.g == q.g && (p.b == q.b && p.a == q.a))) = false) : ¬ p = q := by
  rintro rfl; simp at hc
theorem px_eq {p q : Px} (hc : p.r = q.r ∧ p.g = q.g ∧ p.b = q.b ∧ p.a = q.a) : p = q := by cases p; cases q; simp only [Px.mk.injEq] at *; exact hc
theorem si_1 {a b : Im} (hc : (¬ a.w = b.w ∨ ¬ a.h = b.h) ∨ ¬ (a.p.length : Int) = (b.p.length : Int)) : false = sameI a b := by
  symm; simp only [sameI, decide_eq_false_iff_not]; rintro rfl; simp at hc
theorem si_2x {a b : Im} {k : Nat} (hc : ¬ a.p.getD k zP = b.p.getD k zP) : false = sameI a b := by
  symm; simp only [sameI, decide_eq_false_iff_not]; rintro rfl; simp at hc
theorem si_3 {a b : Im} {k : Nat} (h : (a.w = b.w ∧ a.h = b.h) ∧ (a.p.length : Int) = (b.p.length : Int)) (hI : ∀ j, j < k → a.p.getD j zP = b.p.getD j zP) (hc : (a.p.length : Int) ≤ (k : Int)) : true = sameI a b := by
  symm; simp only [sameI, decide_eq_true_eq]
  have e : a.p = b.p := by
    rw [filP_get0 a.p, filP_get0 b.p, show b.p.length = a.p.length by omega]
    apply tabP_ext; intro j hj; exact hI j (by omega)
  cases a; cases b; simp only [Im.mk.injEq] at *; exact ⟨h.1.1, h.1.2, e⟩
theorem si_4x {a b : Im} {k : Nat} (hI : ∀ j, j < k → a.p.getD j zP = b.p.getD j zP) (hc : a.p.getD k zP = b.p.getD k zP) : ∀ j, j < k + 1 → a.p.getD j zP = b.p.getD j zP := by
  intro j hj
  by_cases h : j = k
  · subst h; exact hc
  · exact hI j (by omega)
end Go.Rect

