import Derived.Test.YtgkflbibpkkegaaGreatDoorLC
import Derived.Test.YtgkflbibpkkegaaGreatDoorEF
set_option linter.unusedSimpArgs false
set_option linter.unusedVariables false
set_option linter.unusedSimpArgs false
set_option linter.unusedVariables false
namespace Go.Rect
open Go.Eng
theorem p2 : ∀ k : Nat, k < 29 → (1 : Int) ≤ 2 ^ k ∧ (2 : Int) ^ k ≤ 268435456 ∧ (2 : Int) ^ k * 2 = 2 ^ (k + 1) := by decide +kernel
def gK (m : Mk) (x y n j i : Int) : Int := growK m x y n n.natAbs (j + n.natAbs).toNat (i + n.natAbs).toNat
def MbOk (m : Mk) (b : B4) : Prop := b = mb0 m ∨ (0 ≤ b.x0 ∧ b.x0 ≤ b.x1 ∧ b.x1 < m.w ∧ 0 ≤ b.y0 ∧ b.y0 ≤ b.y1 ∧ b.y1 < m.h)
end Go.Rect

set_option linter.unusedSimpArgs false
set_option linter.unusedVariables false
namespace Go.Rect
open Go.Eng
end Go.Rect

set_option linter.unusedSimpArgs false
set_option linter.unusedVariables false
namespace Go.Rect
open Go.Eng
theorem iszE {m : Im} : okIm m = (isz m.w m.h && decide ((m.p.length : Int) = m.w * m.h)) := rfl
theorem isz_z {w h : Int} (h1 : isz w h = true) : Z0 w h := by
  simp only [isz, Bool.and_eq_true, decide_eq_true_eq] at h1; unfold Z0; omega
theorem isz_w {w h : Int} (h1 : isz w h = true) : IntKind.i64.wrap (w * h) = w * h := by rw [wN (isz_z h1), nnE (isz_z h1)]
theorem ik_1 {m : Im} (hc : isz m.w m.h = false ∨ ¬ (m.p.length : Int) = IntKind.i64.wrap (m.w * m.h)) : 15 = ichkE m := by
  have : okIm m = false := by
    rw [iszE]
    cases h : isz m.w m.h
    · rfl
    · rcases hc with hc | hc
      · rw [hc] at h; cases h
      · rw [isz_w h] at hc; simp [hc]
  rw [ichkE, this]; rfl
theorem ik_S {m : Im} (hc : isz m.w m.h = true ∧ (m.p.length : Int) = IntKind.i64.wrap (m.w * m.h)) : okIm m = true := by
  have := hc.2
  rw [isz_w hc.1] at this
  rw [iszE, hc.1]; simp [this]
theorem ik_3 {m : Im} {k : Nat} (h : okIm m = true) (hk : (k : Int) < (m.p.length : Int)) (hc : validP (m.p.getD k zP) = false) : 2 = ichkE m := by
  have : m.p.all validP = false := by
    rw [Bool.eq_false_iff]; intro g
    rw [List.all_eq_true] at g
    have := g _ (getD_mem (z := zP) hk)
    rw [hc] at this; cases this
  rw [ichkE, h, this]; rfl
theorem ik_4 {m : Im} {k : Nat} (h : okIm m = true) (hI : (m.p.take k).all validP = true) (hk : (m.p.length : Int) ≤ (k : Int)) : 0 = ichkE m := by
  rw [List.take_of_length_le (by omega)] at hI
  rw [ichkE, h, hI]; rfl
theorem ic5 {m : Im} {k : Nat} (hI : (m.p.take k).all validP = true) (hk : (k : Int) < (m.p.length : Int)) (hc : validP (m.p.getD k zP) = true) : (m.p.take (k + 1)).all validP = true := by
  rw [take_succ' (z := zP) hk, List.all_append, hI]; simp only [List.all_cons, hc, List.all_nil, Bool.and_self]
theorem ik_r1 {m : Im} (hc : ((m.w < 0 ∨ 256 < m.w) ∨ m.h < 0) ∨ 256 < m.h) : 15 = ichkE m := by
  have : okIm m = false := by
    rw [Bool.eq_false_iff]; intro g
    simp only [okIm, Bool.and_eq_true, decide_eq_true_eq] at g; omega
  rw [ichkE, this]; rfl
theorem ik_r2 {m : Im} (hc : ¬ ((m.w == 0) = (m.h == 0)) ∨ ¬ (m.p.length : Int) = m.w * m.h) : 15 = ichkE m := by
  have : okIm m = false := by
    rw [Bool.eq_false_iff]; intro g
    simp only [okIm, Bool.and_eq_true, decide_eq_true_eq, beq_iff_eq] at g
    rcases hc with hc | hc
    · exact hc g.1.2
    · exact hc g.2
  rw [ichkE, this]; rfl
theorem ik_rS {m : Im} (h1 : ((0 ≤ m.w ∧ m.w ≤ 256) ∧ 0 ≤ m.h) ∧ m.h ≤ 256) (h2 : (m.w == 0) = (m.h == 0) ∧ (m.p.length : Int) = m.w * m.h) : okIm m = true := by
  simp only [okIm, Bool.and_eq_true, decide_eq_true_eq, beq_iff_eq]
  exact ⟨⟨⟨⟨⟨h1.1.1.1, h1.1.1.2⟩, h1.1.2⟩, h1.2⟩, h2.1⟩, h2.2⟩
theorem ichk0 {m : Im} (h : ichkE m = 0) : Z0 m.w m.h ∧ (m.w = 0 ↔ m.h = 0) ∧ m.p.length = nn m.w m.h ∧ ∀ k, k < m.p.length → validP (m.p.getD k zP) = true := by
  unfold ichkE at h
  split at h
  · next g =>
    split at h
    · next a =>
      simp only [okIm, Bool.and_eq_true, decide_eq_true_eq, beq_iff_eq] at g
      have hz : Z0 m.w m.h := by unfold Z0; omega
      refine ⟨hz, ?_, ?_, fun k hk => ?_⟩
      · have := g.1.2
        constructor
        · intro e; rw [e] at this; simpa using this.symm
        · intro e; rw [e] at this; simpa using this
      · have := nnE hz; omega
      · rw [List.all_eq_true] at a
        exact a _ (getD_mem (z := zP) (k := k) (l := m.p) (by omega))
    · omega
  · omega
theorem filP_get0 (l : List Px) : l = tabP l.length (fun k => l.getD k zP) := by
  apply List.ext_getElem?
  intro i
  by_cases h : i < l.length
  · simp [tabP, List.getElem?_range h, h]
  · rw [List.getElem?_eq_none (by omega), List.getElem?_eq_none (by rw [tabP_len]; omega)]
theorem tabP_ext {n : Nat} {f g : Nat → Px} (h : ∀ k, k < n → f k = g k) : tabP n f = tabP n g := by
  apply List.map_congr_left; intro k hk; exact h k (by simpa using hk)
theorem tabP_set {n k : Nat} {f : Nat → Px} {v : Px} : (tabP n f).set k v = tabP n (fun j => if j = k then v else f j) := by
  apply List.ext_getElem?
  intro i
  rw [List.getElem?_set]
  by_cases h : i < n
  · by_cases e : k = i
    · subst e; simp [tabP, List.getElem?_range h, h]
    · have e2 : ¬ i = k := fun g => e g.symm
      simp [tabP, List.getElem?_range h, e, e2]
  · rw [List.getElem?_eq_none (l := tabP n fun j => if j = k then v else f j) (by rw [tabP_len]; omega)]
    by_cases e : k = i
    · subst e; simp [tabP_len, h]
    · rw [if_neg e, List.getElem?_eq_none (by rw [tabP_len]; omega)]
theorem filP_set {n k : Nat} {f g : Nat → Px} {v : Px} (h : v = f k) : (filP n f g k).set k v = filP n f g (k + 1) := by
  rw [filP, tabP_set, filP]
  apply tabP_ext
  intro i hi
  by_cases e : i = k
  · subst e; simp [h]
  · simp only [if_neg e]
    by_cases q : i < k
    · rw [if_pos q, if_pos (by omega)]
    · rw [if_neg q, if_neg (by omega)]
theorem filP_all {n k : Nat} {f g : Nat → Px} (h : ∀ i, k ≤ i → i < n → g i = f i) : filP n f g k = tabP n f := by
  rw [filP]; apply tabP_ext; intro i hi
  by_cases q : i < k
  · rw [if_pos q]
  · rw [if_neg q, h i (by omega) hi]
theorem filP_setC {n k : Nat} {f g : Nat → Px} {v : Px} (h : v = f k) : ((filP n f g k).set k v).map pxC = (filP n f g (k + 1)).map pxC := by rw [filP_set h]
theorem tabP_succ (n : Nat) (f : Nat → Px) : tabP (n + 1) f = tabP n f ++ [f n] := by simp [tabP, List.range_succ]
theorem tabP_app {n : Nat} {f : Nat → Px} {v : Px} (h : v = f n) : (tabP n f).map pxC ++ [[.i v.r, .i v.g, .i v.b, .i v.a]] = (tabP (n + 1) f).map pxC := by rw [tabP_succ, h]; simp [pxC]
def mxG (a b : Im) (m : Mk) (k : Nat) : Px := if orU m k = 0 then a.p.getD k zP else mixP (a.p.getD k zP) (b.p.getD k zP) (orU m k)
theorem px_neB {p q : Px} (hc : (p.r == q.r && (p.g == q.g && (p.b == q.b && p.a == q.a))) = false) : ¬ p = q := by
  rintro rfl; simp at hc
theorem px_eq {p q : Px} (hc : p.r = q.r ∧ p.g = q.g ∧ p.b = q.b ∧ p.a = q.a) : p = q := by cases p; cases q; simp only [Px.mk.injEq] at *; exact hc
theorem si_1 {a b : Im} (hc : (¬ a.w = b.w ∨ ¬ a.h = b.h) ∨ ¬ (a.p.length : Int) = (b.p.length : Int)) : false = sameI a b := by
  symm; simp only [sameI, decide_eq_false_iff_not]; rintro rfl; simp at hc
theorem si_2x {a b : Im} {k : Nat} (hc : ¬ a.p.getD k zP = b.p.getD k zP) : false = sameI a b := by
  symm; simp only [sameI, decide_eq_false_iff_not]; rintro rfl; simp at hc
theorem si_3 {a b : Im} {k : Nat} (h : (a.w = b.w ∧ a.h = b.h) ∧ (a.p.length : Int) = (b.p.length : Int)) (hI : ∀ j, j < k → a.p.getD j zP = b.p.getD j zP) (hc : (a.p.length : Int) ≤ (k : Int)) : true = sameI a b := by
  symm; simp only [sameI, decide_eq_true_eq]
  have e : a.p = b.p := by
    rw [filP_get0 a.p, filP_get0 b.p, show b.p.length = a.p.length by omega]
    apply tabP_ext; intro j hj; exact hI j (by omega)
  cases a; cases b; simp only [Im.mk.injEq] at *; exact ⟨h.1.1, h.1.2, e⟩
theorem si_4x {a b : Im} {k : Nat} (hI : ∀ j, j < k → a.p.getD j zP = b.p.getD j zP) (hc : a.p.getD k zP = b.p.getD k zP) : ∀ j, j < k + 1 → a.p.getD j zP = b.p.getD j zP := by
  intro j hj
  by_cases h : j = k
  · subst h; exact hc
  · exact hI j (by omega)
end Go.Rect

set_option linter.unusedSimpArgs false
set_option linter.unusedVariables false
namespace Go.Rect
open Go.Eng
def spL (k : Int) : List Pt :=
  if k = 1 ∨ k = 7 ∨ k = 8 then [⟨0, 16⟩] else if k = 2 then [⟨0, 7⟩] else if k = 4 then [⟨0, 4⟩] else if k = 3 then [⟨0, 16⟩, ⟨0, 262140⟩]
  else if k = 9 then [⟨-16, 16⟩, ⟨-16, 16⟩] else if k = 10 then [⟨1, 16⟩] else []
def inSp (n : Int) (s : Pt) : Bool := decide (s.x ≤ n) && decide (n ≤ s.y)
def okPs (ss : List Pt) (ps : List Int) (k : Nat) : Bool := (List.range k).all fun j => inSp (ps.getD j 0) (ss.getD j ⟨0, 0⟩)
def fchkE (k : Int) (ps : List Int) : Int := if k < 1 ∨ 10 < k then 8 else if ps.length ≠ (spL k).length then 1 else if okPs (spL k) ps ps.length then 0 else 2
def abs2 (n : Int) : Int := max n (-n)
def reachI (k : Int) (ps : List Int) : Int :=
  if fchkE k ps ≠ 0 then 0 else if k = 5 ∨ k = 6 then 1 else if k = 9 then max (abs2 (ps.getD 0 0)) (abs2 (ps.getD 1 0)) else if k = 10 then ps.getD 0 0 - 1 else ps.getD 0 0
def badB (out bd : Rc) : Bool := !validB out || !validB bd || emptyB out || !withinB out bd
def needE (k : Int) (ps : List Int) (out bd : Rc) : Int := if fchkE k ps ≠ 0 then fchkE k ps else if badB out bd then 2 else 0
def needR (k : Int) (ps : List Int) (out bd : Rc) : Rc := if needE k ps out bd = 0 then meetR (growR out (reachI k ps)) bd else zR
structure Vw where
  src : Im
  o : Pt
  bd : Rc
  kind : Int
  ps : List Int
  rad : Int
def vwC (v : Vw) (a b c d e : D) : List D := [.i v.src.w, .i v.src.h, .sl 4 (v.src.p.map pxC), .i v.o.x, .i v.o.y, .i v.bd.x, .i v.bd.y, .i v.bd.w, .i v.bd.h, .i v.kind, .sl 1 (v.ps.map iC), .i v.rad, a, b, c, d, e]
def cxI (v : Vw) (x : Int) : Int := min (max x v.bd.x) (v.bd.x + v.bd.w - 1)
def cyI (v : Vw) (y : Int) : Int := min (max y v.bd.y) (v.bd.y + v.bd.h - 1)
def pixF (v : Vw) (x y : Int) : Px := v.src.p.getD ((cyI v y - v.o.y) * v.src.w + (cxI v x - v.o.x)).toNat zP
structure Sm where
  r : Int
  g : Int
  b : Int
  a : Int
  w : Int
  deriving DecidableEq
def smC (s : Sm) : List D := [.i s.r, .i s.g, .i s.b, .i s.a, .i s.w]
def smD (s : Sm) : D := .agg (smC s)
def unSm : List D → Sm
  | [.i r, .i g, .i b, .i a, .i w] => ⟨r, g, b, a, w⟩
  | _ => ⟨0, 0, 0, 0, 0⟩
def zS : Sm := ⟨0, 0, 0, 0, 0⟩
def addS (s : Sm) (p : Px) (w : Int) : Sm := ⟨s.r + w * p.a * p.r, s.g + w * p.a * p.g, s.b + w * p.a * p.b, s.a + w * p.a, s.w + w⟩
def meanS (s : Sm) : Px := if s.a = 0 then zP else if divI s.a s.w = 0 then zP else ⟨divI s.r s.a, divI s.g s.a, divI s.b s.a, divI s.a s.w⟩
def sqRow (v : Vw) (wt : List Int) (x y : Int) (s : Sm) (j k : Nat) : Sm := (List.range k).foldl (fun s (i : Nat) => addS s (pixF v (x + ((i : Int) - v.rad)) (y + ((j : Int) - v.rad))) (wt.getD i 0 * wt.getD j 0)) s
def sqK (v : Vw) (wt : List Int) (x y : Int) (m k : Nat) : Sm := sqRow v wt x y ((List.range m).foldl (fun s j => sqRow v wt x y s j (2 * v.rad + 1).toNat) zS) m k
def sqS (v : Vw) (wt : List Int) (x y : Int) : Sm := sqK v wt x y (2 * v.rad + 1).toNat 0
def onesL (r : Int) : List Int := tab (2 * r + 1).toNat fun _ => 1
def wtL (k r : Int) : List Int := if k = 2 then tab (2 * r + 1).toNat (pF (2 * r).toNat) else onesL r
def vwOf (i : Im) (o : Pt) (bd : Rc) (k : Int) (ps : List Int) : Vw := ⟨i, o, bd, k, ps, ps.getD 0 0⟩
def chn : Nat → Px → Int
  | 0, p => p.r
  | 1, p => p.g
  | 2, p => p.b
  | _, p => p.a
def winR (v : Vw) (x y : Int) (c j k : Nat) : List Int := (List.range k).map fun (i : Nat) => chn c (pixF v (x + ((i : Int) - v.rad)) (y + ((j : Int) - v.rad)))
def winK (v : Vw) (x y : Int) (c m k : Nat) : List Int := (List.range m).flatMap (fun j => winR v x y c j (2 * v.rad + 1).toNat) ++ winR v x y c m k
def winS (v : Vw) (x y : Int) (c : Nat) : List Int := winK v x y c (2 * v.rad + 1).toNat 0
def sortL (l : List Int) : List Int := l.mergeSort fun x y => decide (x ≤ y)
def maxO (l : List Int) : Int := l.foldl max (l.getD 0 0)
def minO (l : List Int) : Int := l.foldl min (l.getD 0 0)
def selI (k : Int) (l : List Int) : Int := if k = 4 then (sortL l).getD (l.length / 2) 0 else if k = 7 then maxO l else minO l
def rankF (v : Vw) (x y : Int) : Px := ⟨selI v.kind (winS v x y 0), selI v.kind (winS v x y 1), selI v.kind (winS v x y 2), selI v.kind (winS v x y 3)⟩
def sqN (N : Nat) : Nat → Nat
  | 0 => 0
  | j + 1 => if (sqN N j + 2 ^ (63 - j)) * (sqN N j + 2 ^ (63 - j)) ≤ N then sqN N j + 2 ^ (63 - j) else sqN N j
def hypN (x y : Int) : Nat := x.natAbs * x.natAbs + y.natAbs * y.natAbs
def hypI (x y : Int) : Int := if 9223372036854775807 < (sqN (hypN x y) 64 : Int) then 9223372036854775807 else (sqN (hypN x y) 64 : Int)
def lumI (p : Px) : Int := divI (13933 * (limP p).r + 46871 * (limP p).g + 4731 * (limP p).b) 65535
def grayP (c a : Int) : Px := ⟨unitI c, unitI c, unitI c, a⟩
def awayI (am c s a : Int) : Int := unitI (c + divI (am * (c - divI s a)) 65535)
def sharpP (am : Int) (p : Px) (s : Sm) : Px := if p.a = 0 then zP else ⟨awayI am p.r s.r s.a, awayI am p.g s.g s.a, awayI am p.b s.b s.a, p.a⟩
def sharpF (v : Vw) (wt : List Int) (x y : Int) : Px := sharpP (v.ps.getD 1 0) (pixF v x y) (sqS v wt x y)
def lumF (v : Vw) (x y : Int) : Int := lumI (pixF v x y)
def edgX (v : Vw) (x y : Int) : Int := (lumF v (x + 1) (y - 1) + 2 * lumF v (x + 1) y + lumF v (x + 1) (y + 1)) - (lumF v (x - 1) (y - 1) + 2 * lumF v (x - 1) y + lumF v (x - 1) (y + 1))
def edgY (v : Vw) (x y : Int) : Int := (lumF v (x - 1) (y + 1) + 2 * lumF v x (y + 1) + lumF v (x + 1) (y + 1)) - (lumF v (x - 1) (y - 1) + 2 * lumF v x (y - 1) + lumF v (x + 1) (y - 1))
def edgeF (v : Vw) (x y : Int) : Px := grayP (hypI (edgX v x y) (edgY v x y)) (pixF v x y).a
def embF (v : Vw) (x y : Int) : Px := grayP (32768 + lumF v (x + 1) (y + 1) - lumF v (x - 1) (y - 1)) (pixF v x y).a
def motN (v : Vw) : Int := max (abs2 (v.ps.getD 0 0)) (abs2 (v.ps.getD 1 0))
def motP (v : Vw) (x y : Int) (j : Nat) : Px := pixF v (x + divI ((j : Int) * v.ps.getD 0 0) (motN v)) (y + divI ((j : Int) * v.ps.getD 1 0) (motN v))
def motK (v : Vw) (x y : Int) (k : Nat) : Sm := (List.range k).foldl (fun s j => addS s (motP v x y j) 1) zS
def motF (v : Vw) (x y : Int) : Px := meanS (motK v x y ((motN v).toNat + 1))
def blk (b z x : Int) : Int := b + (x - b) / z * z
def pgRow (v : Vw) (x0 y : Int) (s : Sm) (k : Nat) : Sm := (List.range k).foldl (fun s (i : Nat) => addS s (pixF v (x0 + i) y) 1) s
def pgK (v : Vw) (x0 y0 : Int) (W m k : Nat) : Sm := pgRow v x0 (y0 + m) ((List.range m).foldl (fun s (j : Nat) => pgRow v x0 (y0 + j) s W) zS) k
def pgX (v : Vw) (x : Int) : Int := blk v.bd.x (v.ps.getD 0 0) x
def pgY (v : Vw) (y : Int) : Int := blk v.bd.y (v.ps.getD 0 0) y
def pgW (v : Vw) (x : Int) : Nat := (min (pgX v x + v.ps.getD 0 0) (v.bd.x + v.bd.w) - pgX v x).toNat
def pgH (v : Vw) (y : Int) : Nat := (min (pgY v y + v.ps.getD 0 0) (v.bd.y + v.bd.h) - pgY v y).toNat
def pxlF (v : Vw) (x y : Int) : Px := meanS (pgK v (pgX v x) (pgY v y) (pgW v x) (pgH v y) 0)
def filF (v : Vw) (wt : List Int) (x y : Int) : Px :=
  if v.kind = 1 ∨ v.kind = 2 then meanS (sqS v wt x y) else if v.kind = 4 ∨ v.kind = 7 ∨ v.kind = 8 then rankF v x y
  else if v.kind = 3 then sharpF v wt x y else if v.kind = 5 then edgeF v x y else if v.kind = 6 then embF v x y else if v.kind = 9 then motF v x y else pxlF v x y
def clrP (p : Px) : Px := if p.a = 0 then zP else p
def showB (i : Im) (o : Pt) (n : Rc) : Bool := decide (o.x ≤ n.x) && decide (n.x + n.w - i.w ≤ o.x) && decide (o.y ≤ n.y) && decide (n.y + n.h - i.h ≤ o.y)
def gP (w : Nat) (F : Int → Int → Px) (k : Nat) : Px := F ((k % w : Nat) : Int) ((k / w : Nat) : Int)
def appE (i : Im) (o : Pt) (bd : Rc) (k : Int) (ps : List Int) (out : Rc) : Int :=
  if ichkE i ≠ 0 then ichkE i else if needE k ps out bd ≠ 0 then needE k ps out bd else if showB i o (needR k ps out bd) then 0 else 15
def appF (v : Vw) (wt : List Int) (out : Rc) (x y : Int) : Px := clrP (filF v wt (out.x + x) (out.y + y))
def appR (i : Im) (o : Pt) (bd : Rc) (k : Int) (ps : List Int) (out : Rc) : Im :=
  if appE i o bd k ps out = 0 then ⟨out.w, out.h, tabP (nn out.w out.h) (gP out.w.toNat (appF (vwOf i o bd k ps) (wtL k (ps.getD 0 0)) out))⟩ else zI
def whlE (i : Im) (k : Int) (ps : List Int) : Int :=
  if ichkE i ≠ 0 then ichkE i else if fchkE k ps ≠ 0 then fchkE k ps else if i.w = 0 then 0 else appE i ⟨0, 0⟩ ⟨0, 0, i.w, i.h⟩ k ps ⟨0, 0, i.w, i.h⟩
def whlR (i : Im) (k : Int) (ps : List Int) : Im := if whlE i k ps = 0 ∧ i.w ≠ 0 then appR i ⟨0, 0⟩ ⟨0, 0, i.w, i.h⟩ k ps ⟨0, 0, i.w, i.h⟩ else zI
def pixD : List D → Int → Int → Px
  | [.i w, .i h, .sl _ p, .i ox, .i oy, .i bx, .i by', .i bw, .i bh, .i k, .sl _ ps, .i r, _, _, _, _, _], x, y => pixF ⟨⟨w, h, p.map unPx⟩, ⟨ox, oy⟩, ⟨bx, by', bw, bh⟩, k, ps.map unI, r⟩ x y
  | _, _, _ => zP
def sqD : List D → Int → Int → Sm
  | [.i w, .i h, .sl _ p, .i ox, .i oy, .i bx, .i by', .i bw, .i bh, .i k, .sl _ ps, .i r, .sl _ wt, _, _, _, _], x, y => sqS ⟨⟨w, h, p.map unPx⟩, ⟨ox, oy⟩, ⟨bx, by', bw, bh⟩, k, ps.map unI, r⟩ (wt.map unI) x y
  | _, _, _ => zS
def vwU : List D → Vw
  | [.i w, .i h, .sl _ p, .i ox, .i oy, .i bx, .i by', .i bw, .i bh, .i k, .sl _ ps, .i r, _, _, _, _, _] => ⟨⟨w, h, p.map unPx⟩, ⟨ox, oy⟩, ⟨bx, by', bw, bh⟩, k, ps.map unI, r⟩
  | _ => ⟨⟨0, 0, []⟩, ⟨0, 0⟩, ⟨0, 0, 0, 0⟩, 0, [], 0⟩
def wtU : List D → List Int
  | [_, _, _, _, _, _, _, _, _, _, _, _, .sl _ wt, _, _, _, _] => wt.map unI
  | _ => []
def radK (k : Int) (ps : List Int) : Int := if k = 5 ∨ k = 6 ∨ k = 9 ∨ k = 10 then 0 else ps.getD 0 0
def wtD (k r : Int) : D := if k = 5 ∨ k = 6 ∨ k = 9 ∨ k = 10 then .v (.slice none 0 0) else .sl 1 ((wtL k r).map iC)
end Go.Rect

set_option linter.unusedSimpArgs false
set_option linter.unusedVariables false
namespace Go.Rect
open Go.Eng
def rcnt (k : Int) : Int := if k = 5 ∨ k = 6 then 0 else if k = 3 ∨ k = 9 then 2 else 1
theorem toN1i : Int.toNat 1 = 1 := rfl
def k3 (k : Int) : Bool := k == 1 || k == 7 || k == 8
theorem ok1 {k : Int} {ps : List Int} {s : Pt} (h : spL k = [s]) (hn : ps.length = 1) : inSp (ps.getD 0 0) s = okPs (spL k) ps ps.length := by
  rw [h, hn]; simp [okPs, List.range_succ]
theorem ok0 {k : Int} {ps : List Int} (hn : ps.length = 0) : true = okPs (spL k) ps ps.length := by
  rw [hn]; simp [okPs]
end Go.Rect

set_option linter.unusedSimpArgs false
set_option linter.unusedVariables false
namespace Go.Rect
open Go.Eng
theorem quW {a b : Int} (h1 : -2305843009213693952 ≤ a) (h2 : a ≤ 2305843009213693952) (h : 0 < b) (h4 : b ≤ 70368744177664) : -2305843009213693952 ≤ a / b ∧ a / b ≤ 2305843009213693952 ∧ 0 ≤ a - b * (a / b) ∧ a - b * (a / b) < b ∧ -2305913377957871616 ≤ b * (a / b) ∧ b * (a / b) ≤ 2305913377957871616 := by
  have e1 := Int.mul_ediv_add_emod a b; have e2 := Int.emod_nonneg a (show b ≠ 0 by omega); have e3 := Int.emod_lt_of_pos a h
  refine ⟨?_, ?_, by omega, by omega, by omega, by omega⟩
  · rw [Int.le_ediv_iff_mul_le h]
    have : -2305843009213693952 * b ≤ -2305843009213693952 * 1 := Int.mul_le_mul_of_nonpos_left (by omega) (by omega)
    omega
  · rcases Int.le_total 0 a with ha | ha
    · have := Int.ediv_le_self b ha; omega
    · have : a / b ≤ 0 := Int.ediv_nonpos_of_nonpos_of_neg ha (by omega)
      omega
theorem dw1 {a b : Int} (h1 : -2305843009213693952 ≤ a) (h2 : a ≤ 2305843009213693952) (h : 0 < b) (h4 : b ≤ 70368744177664)
    (hc : 0 < b ∧ IntKind.i64.wrap (b - IntKind.i64.wrap (a - IntKind.i64.wrap (b * floorI a b))) ≤ IntKind.i64.wrap (a - IntKind.i64.wrap (b * floorI a b)) ∨ b < 0 ∧ IntKind.i64.wrap (a - IntKind.i64.wrap (b * floorI a b)) ≤ IntKind.i64.wrap (b - IntKind.i64.wrap (a - IntKind.i64.wrap (b * floorI a b)))) :
    IntKind.i64.wrap (floorI a b + 1) = divI a b := by
  rw [floor_pos h] at hc ⊢
  have q := quW h1 h2 h h4
  rw [w64 (n := b * (a / b)) (by omega) (by omega), w64 (n := a - b * (a / b)) (by omega) (by omega), w64 (n := b - (a - b * (a / b))) (by omega) (by omega)] at hc
  rw [w64 (by omega) (by omega)]
  rcases div_cases (a := a) h with ⟨_, e⟩ | ⟨e, _⟩ <;> omega
theorem dw2 {a b : Int} (h1 : -2305843009213693952 ≤ a) (h2 : a ≤ 2305843009213693952) (h : 0 < b) (h4 : b ≤ 70368744177664)
    (hc : (decide (0 < b) && decide (IntKind.i64.wrap (b - IntKind.i64.wrap (a - IntKind.i64.wrap (b * floorI a b))) ≤ IntKind.i64.wrap (a - IntKind.i64.wrap (b * floorI a b)))) = false ∧ (decide (b < 0) && decide (IntKind.i64.wrap (a - IntKind.i64.wrap (b * floorI a b)) ≤ IntKind.i64.wrap (b - IntKind.i64.wrap (a - IntKind.i64.wrap (b * floorI a b))))) = false) :
    floorI a b = divI a b := by
  rw [floor_pos h] at hc ⊢
  have q := quW h1 h2 h h4
  rw [w64 (n := b * (a / b)) (by omega) (by omega), w64 (n := a - b * (a / b)) (by omega) (by omega), w64 (n := b - (a - b * (a / b))) (by omega) (by omega)] at hc
  simp only [h, decide_true, Bool.true_and, decide_eq_false_iff_not] at hc
  rcases div_cases (a := a) h with ⟨e, _⟩ | ⟨_, e⟩ <;> omega
def dOfs (c : List AV) : List D := (allDat c).getD []
theorem unPxV (r g b a : Int) : unPx [.i r, .i g, .i b, .i a] = ⟨r, g, b, a⟩ := rfl
theorem pxEta (p : Px) : (⟨p.r, p.g, p.b, p.a⟩ : Px) = p := rfl
theorem vP_bd {p : Px} (h : validP p = true) : (0 ≤ p.r ∧ p.r ≤ 65535) ∧ (0 ≤ p.g ∧ p.g ≤ 65535) ∧ (0 ≤ p.b ∧ p.b ≤ 65535) ∧ (0 ≤ p.a ∧ p.a ≤ 65535) := by
  have h := of_decide_eq_true h
  have := unit_bd p.r; have := unit_bd p.g; have := unit_bd p.b; have := unit_bd p.a
  have e1 := congrArg Px.r h; have e2 := congrArg Px.g h; have e3 := congrArg Px.b h; have e4 := congrArg Px.a h
  simp only [limP] at e1 e2 e3 e4
  omega
def BdOk (r : Rc) : Prop := (-1048576 ≤ r.x ∧ 0 < r.w ∧ r.x + r.w ≤ 1048576) ∧ (-1048576 ≤ r.y ∧ 0 < r.h ∧ r.y + r.h ≤ 1048576)
def VIn (v : Vw) (x y : Int) : Prop := ichkE v.src = 0 ∧ BdOk v.bd ∧ (0 ≤ cxI v x - v.o.x ∧ cxI v x - v.o.x < v.src.w) ∧ (0 ≤ cyI v y - v.o.y ∧ cyI v y - v.o.y < v.src.h)
def SmOk (s : Sm) : Prop := 0 ≤ s.w ∧ s.w ≤ 268435456 ∧ 0 ≤ s.a ∧ s.a ≤ 65535 * s.w ∧ (0 ≤ s.r ∧ s.r ≤ 65535 * s.a) ∧ (0 ≤ s.g ∧ s.g ≤ 65535 * s.a) ∧ (0 ≤ s.b ∧ s.b ≤ 65535 * s.a)
theorem mulB {u c : Int} (hu : 0 ≤ u) (hc : 0 ≤ c ∧ c ≤ 65535) : 0 ≤ u * c ∧ u * c ≤ 65535 * u := by
  refine ⟨Int.mul_nonneg hu hc.1, ?_⟩
  have := Int.mul_le_mul_of_nonneg_left hc.2 hu
  rw [Int.mul_comm 65535]; exact this
theorem add_ok {s : Sm} {p : Px} {w : Int} (hs : SmOk s) (hp : validP p = true) (hw : 0 ≤ w) (hb : s.w + w ≤ 268435456) : SmOk (addS s p w) ∧ (0 ≤ w * p.a ∧ w * p.a ≤ 65535 * w) ∧ (0 ≤ w * p.a * p.r ∧ w * p.a * p.r ≤ 65535 * (w * p.a)) ∧ (0 ≤ w * p.a * p.g ∧ w * p.a * p.g ≤ 65535 * (w * p.a)) ∧ (0 ≤ w * p.a * p.b ∧ w * p.a * p.b ≤ 65535 * (w * p.a)) := by
  obtain ⟨b1, b2, b3, b4⟩ := vP_bd hp
  have m := mulB hw b4
  have m1 := mulB m.1 b1; have m2 := mulB m.1 b2; have m3 := mulB m.1 b3
  refine ⟨?_, m, m1, m2, m3⟩
  unfold SmOk at hs ⊢
  simp only [addS]
  omega
theorem zS_ok : SmOk zS := by simp [SmOk, zS]
def wtS (wt : List Int) : Nat → Int
  | 0 => 0
  | k + 1 => wtS wt k + wt.getD k 0
structure WtOk (wt : List Int) (N : Nat) : Prop where
  len : wt.length = N
  pos : ∀ i, 0 ≤ wt.getD i 0
  tot : wtS wt N ≤ 16384
def SqH (v : Vw) (wt : List Int) (x y : Int) : Prop := (0 ≤ v.rad ∧ v.rad ≤ 16) ∧ WtOk wt (2 * v.rad + 1).toNat ∧ (-16777216 ≤ x ∧ x ≤ 16777216 ∧ -16777216 ≤ y ∧ y ≤ 16777216) ∧ ∀ i j : Int, -v.rad ≤ i → i ≤ v.rad → -v.rad ≤ j → j ≤ v.rad → VIn v (x + i) (y + j)
end Go.Rect

set_option linter.unusedSimpArgs false
set_option linter.unusedVariables false
namespace Go.Rect
open Go.Eng
def Shw (i : Im) (o : Pt) (n : Rc) : Prop := o.x ≤ n.x ∧ n.x + n.w - i.w ≤ o.x ∧ o.y ≤ n.y ∧ n.y + n.h - i.h ≤ o.y
theorem gP_at {w y x : Nat} {F : Int → Int → Px} (hx : x < w) : gP w F (y * w + x) = F x y := by
  unfold gP
  rw [Nat.mul_comm y, Nat.mul_add_mod, Nat.mod_eq_of_lt hx, Nat.mul_add_div (by omega), Nat.div_eq_of_lt hx, Nat.add_zero]
theorem fallP {w h : Int} {y : Nat} {f g : Nat → Px} (hY : y ≤ h.toNat) (hc : h ≤ (y : Int)) : filP (nn w h) f g (y * w.toNat) = tabP (nn w h) f := by
  have : y = h.toNat := by omega
  subst this
  exact filP_all fun i h1 h2 => by unfold nn at h2; rw [Nat.mul_comm] at h1; omega
theorem repZ (n : Nat) (f : Nat → Px) : (List.replicate n zP).map pxC = (filP n f (fun _ => zP) 0).map pxC := by
  congr 1
  rw [filP]
  apply List.ext_getElem?
  intro k
  by_cases h : k < n
  · simp [tabP, List.getElem?_range h, h]
  · rw [List.getElem?_eq_none (by simp; omega), List.getElem?_eq_none (by rw [tabP_len]; omega)]
def exI : Im := ⟨3, 3, (List.replicate 9 zP).set 4 ⟨65535, 65535, 65535, 65535⟩⟩
theorem unIV (n : Int) : unI [.i n] = n := rfl
end Go.Rect

namespace Go.Rect
end Go.Rect

set_option linter.unusedSimpArgs false
set_option linter.unusedVariables false
namespace Go.Rect
open Go.Eng
structure Gs where
  a : List Int
  b : List Int
  c : List Int
  d : List Int
structure Nm where
  a : Nat
  b : Nat
  c : Nat
  d : Nat
def rkC (v : Vw) (wD : D) (n : Nm) (g : Gs) : List AV := [.dat (.i v.src.w), .dat (.i v.src.h), .dat (.sl 4 (v.src.p.map pxC)), .dat (.i v.o.x), .dat (.i v.o.y), .dat (.i v.bd.x), .dat (.i v.bd.y), .dat (.i v.bd.w), .dat (.i v.bd.h), .dat (.i v.kind), .dat (.sl 1 (v.ps.map iC)), .dat (.i v.rad), .dat wD,
  .vw n.a 0 g.a.length 1, .vw n.b 0 g.b.length 1, .vw n.c 0 g.c.length 1, .vw n.d 0 g.d.length 1]
def rkH (TI TV b : Nat) (v : Vw) (wD : D) (n : Nm) (g : Gs) : Hp := [(b, some (true, .box TV (rkC v wD n g))), (n.a, some (true, .arr TI 1 (g.a.map iC))), (n.b, some (true, .arr TI 1 (g.b.map iC))), (n.c, some (true, .arr TI 1 (g.c.map iC))), (n.d, some (true, .arr TI 1 (g.d.map iC)))]
def zRk (TI TV : Nat) (v : Vw) (wD : D) (g : Gs) (x y : Int) (q : Gs → Prop) (p : Px) : ZC := ⟨[.pt 30000 0, .dat (.i x), .dat (.i y)], rkH TI TV 30000 v wD ⟨30001, 30002, 30003, 30004⟩ g, [30000], [31001, 31002, 31003, 31004], Gs, q, fun _ => .dat (pxD p), fun g' => rkH TI TV 30000 v wD ⟨31001, 31002, 31003, 31004⟩ g'⟩
def rkOf (h : Hp) (nm : Nat) : Option (Vw × D × Nm × Gs) := match geth h nm with
  | some (_, .box _ [.dat (.i w), .dat (.i hh), .dat (.sl _ p), .dat (.i ox), .dat (.i oy), .dat (.i bx), .dat (.i by'), .dat (.i bw), .dat (.i bh), .dat (.i k), .dat (.sl _ ps), .dat (.i r), .dat wD, .vw n1 _ _ _, .vw n2 _ _ _, .vw n3 _ _ _, .vw n4 _ _ _]) =>
    match geth h n1, geth h n2, geth h n3, geth h n4 with
    | some (_, .arr _ _ l1), some (_, .arr _ _ l2), some (_, .arr _ _ l3), some (_, .arr _ _ l4) => some (⟨⟨w, hh, p.map unPx⟩, ⟨ox, oy⟩, ⟨bx, by', bw, bh⟩, k, ps.map unI, r⟩, wD, ⟨n1, n2, n3, n4⟩, ⟨l1.map unI, l2.map unI, l3.map unI, l4.map unI⟩)
    | _, _, _, _ => none
  | _ => none
def nmR (nm : Nat) (n : Nm) : List (Nat × Nat) := [(30000, nm), (30001, n.a), (30002, n.b), (30003, n.c), (30004, n.d)]
def zq (TI TV : Nat) (q : Vw → Gs → Gs → Prop) (F : Vw → Int → Int → Px) (as : List AV) (h : Hp) : Option ZQ := match as with
  | [.pt nm _, .dat (.i x), .dat (.i y)] => match rkOf h nm with
    | some (v, wD, n, g) => some ⟨zRk TI TV v wD g x y (q v g) (F v x y), nmR nm n⟩
    | none => none
  | _ => none
end Go.Rect

