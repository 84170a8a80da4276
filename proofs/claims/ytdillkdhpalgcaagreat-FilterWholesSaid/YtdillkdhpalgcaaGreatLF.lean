import Derived.Test.YtdillkdhpalgcaaGreatLE
set_option linter.unusedSimpArgs false
set_option linter.unusedVariables false
set_option linter.unusedSimpArgs false
set_option linter.unusedVariables false
namespace Go.Rect
open Go.Eng
def spL (k : Int) : List Pt :=
  if k = 1 ∨ k = 7 ∨ k = 8 then [⟨0, 16⟩] else if k = 2 then [⟨0, 7⟩] else if k = 4 then [⟨0, 4⟩] else if k = 3 then [⟨0, 16⟩, ⟨0, 262140⟩]
  else if k = 9 then [⟨-16, 16⟩, ⟨-16, 16⟩] else if k = 10 then [⟨1, 16⟩] else []
def inSp (n : Int) (s : Pt) : Bool := decide (s.x ≤ n) && decide (n ≤ s.y)
def okPs (ss : List Pt) (ps : List Int) (k : Nat) : Bool := (List.range k).all fun j => inSp (ps.getD j 0) (ss.getD j ⟨0, 0⟩)
def fchkE (k : Int) (ps : List Int) : Int := if k < 1 ∨ 10 < k then 8 else if ps.length ≠ (spL k).length then 1 else if okPs (spL k) ps ps.length then 0 else 2
def abs2 (n : Int) : Int := max n (-n)
def reachI (k : Int) (ps : List Int) : Int :=
  if fchkE k ps ≠ 0 then 0 else if k = 5 ∨ k = 6 then 1 else if k = 9 then max (abs2 (ps.getD 0 0)) (abs2 (ps.getD 1 0)) else if k = 10 then ps.getD 0 0 - 1 else ps.getD 0 0
def badB (out bd : Rc) : Bool := !validB out || !validB bd || emptyB out || !withinB out bd
def needE (k : Int) (ps : List Int) (out bd : Rc) : Int := if fchkE k ps ≠ 0 then fchkE k ps else if badB out bd then 2 else 0
def needR (k : Int) (ps : List Int) (out bd : Rc) : Rc := if needE k ps out bd = 0 then meetR (growR out (reachI k ps)) bd else zR
structure Vw where
  src : Im
  o : Pt
  bd : Rc
  kind : Int
  ps : List Int
  rad : Int
def vwC (v : Vw) (a b c d e : D) : List D := [.i v.src.w, .i v.src.h, .sl 4 (v.src.p.map pxC), .i v.o.x, .i v.o.y, .i v.bd.x, .i v.bd.y, .i v.bd.w, .i v.bd.h, .i v.kind, .sl 1 (v.ps.map iC), .i v.rad, a, b, c, d, e]
theorem vwEta (v : Vw) : (⟨v.src, v.o, v.bd, v.kind, v.ps, v.rad⟩ : Vw) = v := rfl
def cxI (v : Vw) (x : Int) : Int := min (max x v.bd.x) (v.bd.x + v.bd.w - 1)
def cyI (v : Vw) (y : Int) : Int := min (max y v.bd.y) (v.bd.y + v.bd.h - 1)
def pixF (v : Vw) (x y : Int) : Px := v.src.p.getD ((cyI v y - v.o.y) * v.src.w + (cxI v x - v.o.x)).toNat zP
structure Sm where
  r : Int
  g : Int
  b : Int
  a : Int
  w : Int
  deriving DecidableEq
def smC (s : Sm) : List D := [.i s.r, .i s.g, .i s.b, .i s.a, .i s.w]
def smD (s : Sm) : D := .agg (smC s)
def unSm : List D → Sm
  | [.i r, .i g, .i b, .i a, .i w] => ⟨r, g, b, a, w⟩
  | _ => ⟨0, 0, 0, 0, 0⟩
theorem unSmE (s : Sm) : unSm [.i s.r, .i s.g, .i s.b, .i s.a, .i s.w] = s := rfl
theorem smEta (s : Sm) : (⟨s.r, s.g, s.b, s.a, s.w⟩ : Sm) = s := rfl
def zS : Sm := ⟨0, 0, 0, 0, 0⟩
def addS (s : Sm) (p : Px) (w : Int) : Sm := ⟨s.r + w * p.a * p.r, s.g + w * p.a * p.g, s.b + w * p.a * p.b, s.a + w * p.a, s.w + w⟩
def meanS (s : Sm) : Px := if s.a = 0 then zP else if divI s.a s.w = 0 then zP else ⟨divI s.r s.a, divI s.g s.a, divI s.b s.a, divI s.a s.w⟩
def sqRow (v : Vw) (wt : List Int) (x y : Int) (s : Sm) (j k : Nat) : Sm := (List.range k).foldl (fun s (i : Nat) => addS s (pixF v (x + ((i : Int) - v.rad)) (y + ((j : Int) - v.rad))) (wt.getD i 0 * wt.getD j 0)) s
def sqK (v : Vw) (wt : List Int) (x y : Int) (m k : Nat) : Sm := sqRow v wt x y ((List.range m).foldl (fun s j => sqRow v wt x y s j (2 * v.rad + 1).toNat) zS) m k
def sqS (v : Vw) (wt : List Int) (x y : Int) : Sm := sqK v wt x y (2 * v.rad + 1).toNat 0
def onesL (r : Int) : List Int := tab (2 * r + 1).toNat fun _ => 1
def wtL (k r : Int) : List Int := if k = 2 then tab (2 * r + 1).toNat (pF (2 * r).toNat) else onesL r
def vwOf (i : Im) (o : Pt) (bd : Rc) (k : Int) (ps : List Int) : Vw := ⟨i, o, bd, k, ps, ps.getD 0 0⟩
def chn : Nat → Px → Int
  | 0, p => p.r
  | 1, p => p.g
  | 2, p => p.b
  | _, p => p.a
def winR (v : Vw) (x y : Int) (c j k : Nat) : List Int := (List.range k).map fun (i : Nat) => chn c (pixF v (x + ((i : Int) - v.rad)) (y + ((j : Int) - v.rad)))
def winK (v : Vw) (x y : Int) (c m k : Nat) : List Int := (List.range m).flatMap (fun j => winR v x y c j (2 * v.rad + 1).toNat) ++ winR v x y c m k
def winS (v : Vw) (x y : Int) (c : Nat) : List Int := winK v x y c (2 * v.rad + 1).toNat 0
def sortL (l : List Int) : List Int := l.mergeSort fun x y => decide (x ≤ y)
def maxO (l : List Int) : Int := l.foldl max (l.getD 0 0)
def minO (l : List Int) : Int := l.foldl min (l.getD 0 0)
def selI (k : Int) (l : List Int) : Int := if k = 4 then (sortL l).getD (l.length / 2) 0 else if k = 7 then maxO l else minO l
def rankF (v : Vw) (x y : Int) : Px := ⟨selI v.kind (winS v x y 0), selI v.kind (winS v x y 1), selI v.kind (winS v x y 2), selI v.kind (winS v x y 3)⟩
def sqN (N : Nat) : Nat → Nat
  | 0 => 0
  | j + 1 => if (sqN N j + 2 ^ (63 - j)) * (sqN N j + 2 ^ (63 - j)) ≤ N then sqN N j + 2 ^ (63 - j) else sqN N j
def hypN (x y : Int) : Nat := x.natAbs * x.natAbs + y.natAbs * y.natAbs
def hypI (x y : Int) : Int := if 9223372036854775807 < (sqN (hypN x y) 64 : Int) then 9223372036854775807 else (sqN (hypN x y) 64 : Int)
def lumI (p : Px) : Int := divI (13933 * (limP p).r + 46871 * (limP p).g + 4731 * (limP p).b) 65535
def grayP (c a : Int) : Px := ⟨unitI c, unitI c, unitI c, a⟩
def awayI (am c s a : Int) : Int := unitI (c + divI (am * (c - divI s a)) 65535)
def sharpP (am : Int) (p : Px) (s : Sm) : Px := if p.a = 0 then zP else ⟨awayI am p.r s.r s.a, awayI am p.g s.g s.a, awayI am p.b s.b s.a, p.a⟩
def sharpF (v : Vw) (wt : List Int) (x y : Int) : Px := sharpP (v.ps.getD 1 0) (pixF v x y) (sqS v wt x y)
def lumF (v : Vw) (x y : Int) : Int := lumI (pixF v x y)
def edgX (v : Vw) (x y : Int) : Int := (lumF v (x + 1) (y - 1) + 2 * lumF v (x + 1) y + lumF v (x + 1) (y + 1)) - (lumF v (x - 1) (y - 1) + 2 * lumF v (x - 1) y + lumF v (x - 1) (y + 1))
def edgY (v : Vw) (x y : Int) : Int := (lumF v (x - 1) (y + 1) + 2 * lumF v x (y + 1) + lumF v (x + 1) (y + 1)) - (lumF v (x - 1) (y - 1) + 2 * lumF v x (y - 1) + lumF v (x + 1) (y - 1))
def edgeF (v : Vw) (x y : Int) : Px := grayP (hypI (edgX v x y) (edgY v x y)) (pixF v x y).a
def embF (v : Vw) (x y : Int) : Px := grayP (32768 + lumF v (x + 1) (y + 1) - lumF v (x - 1) (y - 1)) (pixF v x y).a
def motN (v : Vw) : Int := max (abs2 (v.ps.getD 0 0)) (abs2 (v.ps.getD 1 0))
def motP (v : Vw) (x y : Int) (j : Nat) : Px := pixF v (x + divI ((j : Int) * v.ps.getD 0 0) (motN v)) (y + divI ((j : Int) * v.ps.getD 1 0) (motN v))
def motK (v : Vw) (x y : Int) (k : Nat) : Sm := (List.range k).foldl (fun s j => addS s (motP v x y j) 1) zS
def motF (v : Vw) (x y : Int) : Px := meanS (motK v x y ((motN v).toNat + 1))
def blk (b z x : Int) : Int := b + (x - b) / z * z
def pgRow (v : Vw) (x0 y : Int) (s : Sm) (k : Nat) : Sm := (List.range k).foldl (fun s (i : Nat) => addS s (pixF v (x0 + i) y) 1) s
def pgK (v : Vw) (x0 y0 : Int) (W m k : Nat) : Sm := pgRow v x0 (y0 + m) ((List.range m).foldl (fun s (j : Nat) => pgRow v x0 (y0 + j) s W) zS) k
def pgX (v : Vw) (x : Int) : Int := blk v.bd.x (v.ps.getD 0 0) x
def pgY (v : Vw) (y : Int) : Int := blk v.bd.y (v.ps.getD 0 0) y
def pgW (v : Vw) (x : Int) : Nat := (min (pgX v x + v.ps.getD 0 0) (v.bd.x + v.bd.w) - pgX v x).toNat
def pgH (v : Vw) (y : Int) : Nat := (min (pgY v y + v.ps.getD 0 0) (v.bd.y + v.bd.h) - pgY v y).toNat
def pxlF (v : Vw) (x y : Int) : Px := meanS (pgK v (pgX v x) (pgY v y) (pgW v x) (pgH v y) 0)
def filF (v : Vw) (wt : List Int) (x y : Int) : Px :=
  if v.kind = 1 ∨ v.kind = 2 then meanS (sqS v wt x y) else if v.kind = 4 ∨ v.kind = 7 ∨ v.kind = 8 then rankF v x y
  else if v.kind = 3 then sharpF v wt x y else if v.kind = 5 then edgeF v x y else if v.kind = 6 then embF v x y else if v.kind = 9 then motF v x y else pxlF v x y
def clrP (p : Px) : Px := if p.a = 0 then zP else p
def showB (i : Im) (o : Pt) (n : Rc) : Bool := decide (o.x ≤ n.x) && decide (n.x + n.w - i.w ≤ o.x) && decide (o.y ≤ n.y) && decide (n.y + n.h - i.h ≤ o.y)
def gP (w : Nat) (F : Int → Int → Px) (k : Nat) : Px := F ((k % w : Nat) : Int) ((k / w : Nat) : Int)
def appE (i : Im) (o : Pt) (bd : Rc) (k : Int) (ps : List Int) (out : Rc) : Int :=
  if ichkE i ≠ 0 then ichkE i else if needE k ps out bd ≠ 0 then needE k ps out bd else if showB i o (needR k ps out bd) then 0 else 15
def appF (v : Vw) (wt : List Int) (out : Rc) (x y : Int) : Px := clrP (filF v wt (out.x + x) (out.y + y))
def appR (i : Im) (o : Pt) (bd : Rc) (k : Int) (ps : List Int) (out : Rc) : Im :=
  if appE i o bd k ps out = 0 then ⟨out.w, out.h, tabP (nn out.w out.h) (gP out.w.toNat (appF (vwOf i o bd k ps) (wtL k (ps.getD 0 0)) out))⟩ else zI
def whlE (i : Im) (k : Int) (ps : List Int) : Int :=
  if ichkE i ≠ 0 then ichkE i else if fchkE k ps ≠ 0 then fchkE k ps else if i.w = 0 then 0 else appE i ⟨0, 0⟩ ⟨0, 0, i.w, i.h⟩ k ps ⟨0, 0, i.w, i.h⟩
def whlR (i : Im) (k : Int) (ps : List Int) : Im := if whlE i k ps = 0 ∧ i.w ≠ 0 then appR i ⟨0, 0⟩ ⟨0, 0, i.w, i.h⟩ k ps ⟨0, 0, i.w, i.h⟩ else zI
def pixD : List D → Int → Int → Px
  | [.i w, .i h, .sl _ p, .i ox, .i oy, .i bx, .i by', .i bw, .i bh, .i k, .sl _ ps, .i r, _, _, _, _, _], x, y => pixF ⟨⟨w, h, p.map unPx⟩, ⟨ox, oy⟩, ⟨bx, by', bw, bh⟩, k, ps.map unI, r⟩ x y
  | _, _, _ => zP
def sqD : List D → Int → Int → Sm
  | [.i w, .i h, .sl _ p, .i ox, .i oy, .i bx, .i by', .i bw, .i bh, .i k, .sl _ ps, .i r, .sl _ wt, _, _, _, _], x, y => sqS ⟨⟨w, h, p.map unPx⟩, ⟨ox, oy⟩, ⟨bx, by', bw, bh⟩, k, ps.map unI, r⟩ (wt.map unI) x y
  | _, _, _ => zS
def vwU : List D → Vw
  | [.i w, .i h, .sl _ p, .i ox, .i oy, .i bx, .i by', .i bw, .i bh, .i k, .sl _ ps, .i r, _, _, _, _, _] => ⟨⟨w, h, p.map unPx⟩, ⟨ox, oy⟩, ⟨bx, by', bw, bh⟩, k, ps.map unI, r⟩
  | _ => ⟨⟨0, 0, []⟩, ⟨0, 0⟩, ⟨0, 0, 0, 0⟩, 0, [], 0⟩
def wtU : List D → List Int
  | [_, _, _, _, _, _, _, _, _, _, _, _, .sl _ wt, _, _, _, _] => wt.map unI
  | _ => []
theorem pixDE (w h ox oy bx by' bw bh k r : Int) (p : List Px) (ps : List Int) (a b c d e : D) (x y : Int) : pixD [.i w, .i h, .sl 4 (p.map pxC), .i ox, .i oy, .i bx, .i by', .i bw, .i bh, .i k, .sl 1 (ps.map iC), .i r, a, b, c, d, e] x y = pixF ⟨⟨w, h, p⟩, ⟨ox, oy⟩, ⟨bx, by', bw, bh⟩, k, ps, r⟩ x y := by simp only [pixD, mapPx, mapI]
theorem sqDE (w h ox oy bx by' bw bh k r : Int) (p : List Px) (ps wt : List Int) (b c d e : D) (x y : Int) : sqD [.i w, .i h, .sl 4 (p.map pxC), .i ox, .i oy, .i bx, .i by', .i bw, .i bh, .i k, .sl 1 (ps.map iC), .i r, .sl 1 (wt.map iC), b, c, d, e] x y = sqS ⟨⟨w, h, p⟩, ⟨ox, oy⟩, ⟨bx, by', bw, bh⟩, k, ps, r⟩ wt x y := by simp only [sqD, mapPx, mapI]
theorem vwUE (w h ox oy bx by' bw bh k r : Int) (p : List Px) (ps : List Int) (a b c d e : D) : vwU [.i w, .i h, .sl 4 (p.map pxC), .i ox, .i oy, .i bx, .i by', .i bw, .i bh, .i k, .sl 1 (ps.map iC), .i r, a, b, c, d, e] = ⟨⟨w, h, p⟩, ⟨ox, oy⟩, ⟨bx, by', bw, bh⟩, k, ps, r⟩ := by simp only [vwU, mapPx, mapI]
theorem wtUE (a b c d e f g h i j k l n o p q : D) (wt : List Int) : wtU [a, b, c, d, e, f, g, h, i, j, k, l, .sl 1 (wt.map iC), n, o, p, q] = wt := by simp only [wtU, mapI]
theorem wtUN (a b c d e f g h i j k l n o p q : D) (u : Value) : wtU [a, b, c, d, e, f, g, h, i, j, k, l, .v u, n, o, p, q] = [] := rfl
def radK (k : Int) (ps : List Int) : Int := if k = 5 ∨ k = 6 ∨ k = 9 ∨ k = 10 then 0 else ps.getD 0 0
def wtD (k r : Int) : D := if k = 5 ∨ k = 6 ∨ k = 9 ∨ k = 10 then .v (.slice none 0 0) else .sl 1 ((wtL k r).map iC)
end Go.Rect

set_option linter.unusedSimpArgs false
set_option linter.unusedVariables false
namespace Go.Rect
open Go.Eng
def rcnt (k : Int) : Int := if k = 5 ∨ k = 6 then 0 else if k = 3 ∨ k = 9 then 2 else 1
theorem in_T {n : Int} {s : Pt} : inSp n s = true ↔ s.x ≤ n ∧ n ≤ s.y := by simp [inSp]
theorem fk1 {k : Int} {ps : List Int} (hc : k < 1 ∨ 10 < k) : 8 = fchkE k ps := by rw [fchkE, if_pos hc]
theorem fk2 {k : Int} {ps : List Int} (h : 1 ≤ k ∧ k ≤ 10) (hc : ¬ (ps.length : Int) = ((spL k).length : Int)) : 1 = fchkE k ps := by
  rw [fchkE, if_neg (by omega), if_pos (by omega)]
theorem fk3 {k : Int} {ps : List Int} {j : Nat} (h : 1 ≤ k ∧ k ≤ 10) (h2 : (ps.length : Int) = ((spL k).length : Int)) (hj : (j : Int) < (ps.length : Int))
    (hc : ps.getD j 0 < ((spL k).getD j ⟨0, 0⟩).x ∨ ((spL k).getD j ⟨0, 0⟩).y < ps.getD j 0) : 2 = fchkE k ps := by
  rw [fchkE, if_neg (by omega), if_neg (by omega), if_neg]
  intro g
  rw [okPs, List.all_eq_true] at g
  have := g j (by simp; omega)
  simp only [inSp, Bool.and_eq_true, decide_eq_true_eq] at this
  omega
theorem fk4 {k : Int} {ps : List Int} {j : Nat} (h : 1 ≤ k ∧ k ≤ 10) (h2 : (ps.length : Int) = ((spL k).length : Int)) (hI : okPs (spL k) ps j = true) (hj : (ps.length : Int) ≤ (j : Int)) : 0 = fchkE k ps := by
  rw [fchkE, if_neg (by omega), if_neg (by omega), if_pos]
  rw [okPs, List.all_eq_true] at hI ⊢
  intro i hi
  exact hI i (by simp at hi ⊢; omega)
theorem fk5 {ss : List Pt} {ps : List Int} {j : Nat} (hI : okPs ss ps j = true) (hc : (ss.getD j ⟨0, 0⟩).x ≤ ps.getD j 0 ∧ ps.getD j 0 ≤ (ss.getD j ⟨0, 0⟩).y) : okPs ss ps (j + 1) = true := by
  rw [okPs, List.range_succ, List.all_append, ← okPs, hI]
  simp only [List.all_cons, List.all_nil, Bool.and_true, Bool.true_and]
  exact in_T.2 hc
theorem spL_len {k : Int} (h : 1 ≤ k ∧ k ≤ 10) : ((spL k).length : Int) = rcnt k := by
  have : k = 1 ∨ k = 2 ∨ k = 3 ∨ k = 4 ∨ k = 5 ∨ k = 6 ∨ k = 7 ∨ k = 8 ∨ k = 9 ∨ k = 10 := by omega
  rcases this with rfl | rfl | rfl | rfl | rfl | rfl | rfl | rfl | rfl | rfl <;> rfl
theorem fr1 {k : Int} {ps : List Int} (hc : inSp k ⟨1, 10⟩ = false) : 8 = fchkE k ps := by
  refine fk1 ?_
  rw [Bool.eq_false_iff] at hc
  simp only [inSp, ne_eq, Bool.and_eq_true, decide_eq_true_eq] at hc; omega
theorem fr2 {k : Int} {ps : List Int} (h : inSp k ⟨1, 10⟩ = true) (hc : ¬ (ps.length : Int) = rcnt k) : 1 = fchkE k ps := by
  have := in_T.1 h
  exact fk2 this (by rw [spL_len this]; exact hc)
theorem okP {ss : List Pt} {ps : List Int} {k : Nat} (h : okPs ss ps k = true) {j : Nat} (hj : j < k) : (ss.getD j ⟨0, 0⟩).x ≤ ps.getD j 0 ∧ ps.getD j 0 ≤ (ss.getD j ⟨0, 0⟩).y := by
  rw [okPs, List.all_eq_true] at h
  exact in_T.1 (h j (by simpa using hj))
theorem fk_0 {k : Int} {ps : List Int} (h : fchkE k ps = 0) : (1 ≤ k ∧ k ≤ 10) ∧ (ps.length : Int) = rcnt k ∧ okPs (spL k) ps ps.length = true := by
  unfold fchkE at h
  split at h
  · omega
  · split at h
    · omega
    · next h1 h2 =>
      split at h
      · next h3 => exact ⟨by omega, by rw [← spL_len (by omega)]; omega, h3⟩
      · omega
theorem fk_rg {k : Int} {ps : List Int} (h : fchkE k ps = 0) : (1 ≤ k ∧ k ≤ 10) ∧ (k = 9 → ps.length = 2 ∧ (-16 ≤ ps.getD 0 0 ∧ ps.getD 0 0 ≤ 16) ∧ (-16 ≤ ps.getD 1 0 ∧ ps.getD 1 0 ≤ 16)) ∧ (k = 10 → ps.length = 1 ∧ 1 ≤ ps.getD 0 0 ∧ ps.getD 0 0 ≤ 16) ∧
    (k ≠ 5 → k ≠ 6 → 0 < ps.length ∧ -16 ≤ ps.getD 0 0 ∧ ps.getD 0 0 ≤ 16 ∧ (k ≠ 9 → 0 ≤ ps.getD 0 0) ∧ (k = 2 → ps.getD 0 0 ≤ 7) ∧ (k = 4 → ps.getD 0 0 ≤ 4)) ∧ (k = 3 → ps.length = 2 ∧ 0 ≤ ps.getD 1 0 ∧ ps.getD 1 0 ≤ 262140) := by
  obtain ⟨h1, h2, h3⟩ := fk_0 h
  have : k = 1 ∨ k = 2 ∨ k = 3 ∨ k = 4 ∨ k = 5 ∨ k = 6 ∨ k = 7 ∨ k = 8 ∨ k = 9 ∨ k = 10 := by omega
  rcases this with rfl | rfl | rfl | rfl | rfl | rfl | rfl | rfl | rfl | rfl
  all_goals
    simp [rcnt] at h2
    have h0 : 0 < ps.length → _ := fun g => okP h3 g
    have h9 : 1 < ps.length → _ := fun g => okP h3 g
    simp [spL] at h0 h9
    simp only [List.getD_eq_getElem?_getD]
    refine ⟨by omega, by omega, by omega, by omega, by omega⟩
theorem toN1i : Int.toNat 1 = 1 := rfl
def k3 (k : Int) : Bool := k == 1 || k == 7 || k == 8
theorem ok1 {k : Int} {ps : List Int} {s : Pt} (h : spL k = [s]) (hn : ps.length = 1) : inSp (ps.getD 0 0) s = okPs (spL k) ps ps.length := by
  rw [h, hn]; simp [okPs, List.range_succ]
theorem ok2 {k : Int} {ps : List Int} {s t : Pt} (h : spL k = [s, t]) (hn : ps.length = 2) : (inSp (ps.getD 0 0) s && inSp (ps.getD 1 0) t) = okPs (spL k) ps ps.length := by
  rw [h, hn]; simp [okPs, List.range_succ]
theorem ok0 {k : Int} {ps : List Int} (hn : ps.length = 0) : true = okPs (spL k) ps ps.length := by
  rw [hn]; simp [okPs]
theorem fr3 {k : Int} {ps : List Int} (h : inSp k ⟨1, 10⟩ = true) (hk : (ps.length : Int) = rcnt k) (hc : okPs (spL k) ps ps.length = false) : 2 = fchkE k ps := by
  have h1 := in_T.1 h
  have h2 := spL_len h1
  rw [fchkE, if_neg (by simp only at h1; omega), if_neg (by omega), hc]; rfl
theorem fr4 {k : Int} {ps : List Int} (h : inSp k ⟨1, 10⟩ = true) (hk : (ps.length : Int) = rcnt k) (hc : okPs (spL k) ps ps.length = true) : 0 = fchkE k ps := by
  have h1 := in_T.1 h
  have h2 := spL_len h1
  rw [fchkE, if_neg (by simp only at h1; omega), if_neg (by omega), hc]; rfl
theorem bad1 {r s : Rc} (hc : ((validB r = false ∨ validB s = false) ∨ emptyB r = true) ∨ withinB r s = false) : badB r s = true := by
  unfold badB
  rcases hc with ((h | h) | h) | h <;> simp [h]
theorem bad0 {r s : Rc} (hc : ((validB r = true ∧ validB s = true) ∧ emptyB r = false) ∧ withinB r s = true) : badB r s = false := by
  unfold badB; simp [hc]
theorem nd1 {k : Int} {ps : List Int} {r s : Rc} (hc : ¬ fchkE k ps = 0) : ((0 : Int) = (needR k ps r s).x ∧ 0 = (needR k ps r s).y ∧ 0 = (needR k ps r s).w ∧ 0 = (needR k ps r s).h) ∧ fchkE k ps = needE k ps r s := by
  have e : needE k ps r s = fchkE k ps := by rw [needE, if_pos hc]
  rw [needR, e, if_neg hc]
  exact ⟨⟨rfl, rfl, rfl, rfl⟩, rfl⟩
theorem nd2 {k : Int} {ps : List Int} {r s : Rc} (h : fchkE k ps = 0) (hc : badB r s = true) : ((0 : Int) = (needR k ps r s).x ∧ 0 = (needR k ps r s).y ∧ 0 = (needR k ps r s).w ∧ 0 = (needR k ps r s).h) ∧ 2 = needE k ps r s := by
  have e : needE k ps r s = 2 := by rw [needE, if_neg (by omega), if_pos hc]
  rw [needR, e]
  exact ⟨⟨rfl, rfl, rfl, rfl⟩, rfl⟩
theorem nd3 {k : Int} {ps : List Int} {r s : Rc} (h : fchkE k ps = 0) (hc : badB r s = false) : meetR (growR r (reachI k ps)) s = needR k ps r s ∧ 0 = needE k ps r s := by
  have e : needE k ps r s = 0 := by rw [needE, if_neg (by omega), hc]; rfl
  exact ⟨by rw [needR, if_pos e], e.symm⟩
end Go.Rect

set_option linter.unusedSimpArgs false
set_option linter.unusedVariables false
namespace Go.Rect
open Go.Eng
theorem quW {a b : Int} (h1 : -2305843009213693952 ≤ a) (h2 : a ≤ 2305843009213693952) (h : 0 < b) (h4 : b ≤ 70368744177664) : -2305843009213693952 ≤ a / b ∧ a / b ≤ 2305843009213693952 ∧ 0 ≤ a - b * (a / b) ∧ a - b * (a / b) < b ∧ -2305913377957871616 ≤ b * (a / b) ∧ b * (a / b) ≤ 2305913377957871616 := by
  have e1 := Int.mul_ediv_add_emod a b; have e2 := Int.emod_nonneg a (show b ≠ 0 by omega); have e3 := Int.emod_lt_of_pos a h
  refine ⟨?_, ?_, by omega, by omega, by omega, by omega⟩
  · rw [Int.le_ediv_iff_mul_le h]
    have : -2305843009213693952 * b ≤ -2305843009213693952 * 1 := Int.mul_le_mul_of_nonpos_left (by omega) (by omega)
    omega
  · rcases Int.le_total 0 a with ha | ha
    · have := Int.ediv_le_self b ha; omega
    · have : a / b ≤ 0 := Int.ediv_nonpos_of_nonpos_of_neg ha (by omega)
      omega
theorem dw1 {a b : Int} (h1 : -2305843009213693952 ≤ a) (h2 : a ≤ 2305843009213693952) (h : 0 < b) (h4 : b ≤ 70368744177664)
    (hc : 0 < b ∧ IntKind.i64.wrap (b - IntKind.i64.wrap (a - IntKind.i64.wrap (b * floorI a b))) ≤ IntKind.i64.wrap (a - IntKind.i64.wrap (b * floorI a b)) ∨ b < 0 ∧ IntKind.i64.wrap (a - IntKind.i64.wrap (b * floorI a b)) ≤ IntKind.i64.wrap (b - IntKind.i64.wrap (a - IntKind.i64.wrap (b * floorI a b)))) :
    IntKind.i64.wrap (floorI a b + 1) = divI a b := by
  rw [floor_pos h] at hc ⊢
  have q := quW h1 h2 h h4
  rw [w64 (n := b * (a / b)) (by omega) (by omega), w64 (n := a - b * (a / b)) (by omega) (by omega), w64 (n := b - (a - b * (a / b))) (by omega) (by omega)] at hc
  rw [w64 (by omega) (by omega)]
  rcases div_cases (a := a) h with ⟨_, e⟩ | ⟨e, _⟩ <;> omega
theorem dw2 {a b : Int} (h1 : -2305843009213693952 ≤ a) (h2 : a ≤ 2305843009213693952) (h : 0 < b) (h4 : b ≤ 70368744177664)
    (hc : (decide (0 < b) && decide (IntKind.i64.wrap (b - IntKind.i64.wrap (a - IntKind.i64.wrap (b * floorI a b))) ≤ IntKind.i64.wrap (a - IntKind.i64.wrap (b * floorI a b)))) = false ∧ (decide (b < 0) && decide (IntKind.i64.wrap (a - IntKind.i64.wrap (b * floorI a b)) ≤ IntKind.i64.wrap (b - IntKind.i64.wrap (a - IntKind.i64.wrap (b * floorI a b))))) = false) :
    floorI a b = divI a b := by
  rw [floor_pos h] at hc ⊢
  have q := quW h1 h2 h h4
  rw [w64 (n := b * (a / b)) (by omega) (by omega), w64 (n := a - b * (a / b)) (by omega) (by omega), w64 (n := b - (a - b * (a / b))) (by omega) (by omega)] at hc
  simp only [h, decide_true, Bool.true_and, decide_eq_false_iff_not] at hc
  rcases div_cases (a := a) h with ⟨e, _⟩ | ⟨_, e⟩ <;> omega
def dOfs (c : List AV) : List D := (allDat c).getD []
theorem unSmV (r g b a w : Int) : unSm [.i r, .i g, .i b, .i a, .i w] = ⟨r, g, b, a, w⟩ := rfl
theorem unPxV (r g b a : Int) : unPx [.i r, .i g, .i b, .i a] = ⟨r, g, b, a⟩ := rfl
theorem pxEta (p : Px) : (⟨p.r, p.g, p.b, p.a⟩ : Px) = p := rfl
theorem vP_bd {p : Px} (h : validP p = true) : (0 ≤ p.r ∧ p.r ≤ 65535) ∧ (0 ≤ p.g ∧ p.g ≤ 65535) ∧ (0 ≤ p.b ∧ p.b ≤ 65535) ∧ (0 ≤ p.a ∧ p.a ≤ 65535) := by
  have h := of_decide_eq_true h
  have := unit_bd p.r; have := unit_bd p.g; have := unit_bd p.b; have := unit_bd p.a
  have e1 := congrArg Px.r h; have e2 := congrArg Px.g h; have e3 := congrArg Px.b h; have e4 := congrArg Px.a h
  simp only [limP] at e1 e2 e3 e4
  omega
def BdOk (r : Rc) : Prop := (-1048576 ≤ r.x ∧ 0 < r.w ∧ r.x + r.w ≤ 1048576) ∧ (-1048576 ≤ r.y ∧ 0 < r.h ∧ r.y + r.h ≤ 1048576)
def VIn (v : Vw) (x y : Int) : Prop := ichkE v.src = 0 ∧ BdOk v.bd ∧ (0 ≤ cxI v x - v.o.x ∧ cxI v x - v.o.x < v.src.w) ∧ (0 ≤ cyI v y - v.o.y ∧ cyI v y - v.o.y < v.src.h)
theorem cx_bd {v : Vw} (h : BdOk v.bd) (x : Int) : -1048576 ≤ cxI v x ∧ cxI v x ≤ 1048576 := by unfold BdOk at h; unfold cxI; omega
theorem cy_bd {v : Vw} (h : BdOk v.bd) (y : Int) : -1048576 ≤ cyI v y ∧ cyI v y ≤ 1048576 := by unfold BdOk at h; unfold cyI; omega
theorem vin_ix {v : Vw} {x y : Int} (h : VIn v x y) : (0 ≤ (cyI v y - v.o.y) * v.src.w ∧ (cyI v y - v.o.y) * v.src.w ≤ 65536) ∧ 0 ≤ (cyI v y - v.o.y) * v.src.w + (cxI v x - v.o.x) ∧ ((cyI v y - v.o.y) * v.src.w + (cxI v x - v.o.x)).toNat < v.src.p.length ∧ (v.src.p.length : Int) ≤ 65536 := by
  obtain ⟨h1, h2, h3, h4⟩ := h
  obtain ⟨hz, _, hl, _⟩ := ichk0 h1
  have hY : (((cyI v y - v.o.y).toNat : Nat) : Int) = cyI v y - v.o.y := Int.toNat_of_nonneg h4.1
  have hX : (((cxI v x - v.o.x).toNat : Nat) : Int) = cxI v x - v.o.x := Int.toNat_of_nonneg h3.1
  have hi := yxI (y := (cyI v y - v.o.y).toNat) (x := (cxI v x - v.o.x).toNat) hz (by omega) (by omega)
  have hb := nn_bd hz
  rw [hY, hX] at hi
  refine ⟨⟨hi.2.2.1, hi.2.2.2.1⟩, by omega, ?_, by omega⟩
  rw [hi.1, Int.toNat_natCast, hl]; exact hi.2.1
theorem pix_ok {v : Vw} {x y : Int} (h : VIn v x y) : validP (pixF v x y) = true := (ichk0 h.1).2.2.2 _ (vin_ix h).2.2.1
def SmOk (s : Sm) : Prop := 0 ≤ s.w ∧ s.w ≤ 268435456 ∧ 0 ≤ s.a ∧ s.a ≤ 65535 * s.w ∧ (0 ≤ s.r ∧ s.r ≤ 65535 * s.a) ∧ (0 ≤ s.g ∧ s.g ≤ 65535 * s.a) ∧ (0 ≤ s.b ∧ s.b ≤ 65535 * s.a)
theorem mulB {u c : Int} (hu : 0 ≤ u) (hc : 0 ≤ c ∧ c ≤ 65535) : 0 ≤ u * c ∧ u * c ≤ 65535 * u := by
  refine ⟨Int.mul_nonneg hu hc.1, ?_⟩
  have := Int.mul_le_mul_of_nonneg_left hc.2 hu
  rw [Int.mul_comm 65535]; exact this
theorem add_ok {s : Sm} {p : Px} {w : Int} (hs : SmOk s) (hp : validP p = true) (hw : 0 ≤ w) (hb : s.w + w ≤ 268435456) : SmOk (addS s p w) ∧ (0 ≤ w * p.a ∧ w * p.a ≤ 65535 * w) ∧ (0 ≤ w * p.a * p.r ∧ w * p.a * p.r ≤ 65535 * (w * p.a)) ∧ (0 ≤ w * p.a * p.g ∧ w * p.a * p.g ≤ 65535 * (w * p.a)) ∧ (0 ≤ w * p.a * p.b ∧ w * p.a * p.b ≤ 65535 * (w * p.a)) := by
  obtain ⟨b1, b2, b3, b4⟩ := vP_bd hp
  have m := mulB hw b4
  have m1 := mulB m.1 b1; have m2 := mulB m.1 b2; have m3 := mulB m.1 b3
  refine ⟨?_, m, m1, m2, m3⟩
  unfold SmOk at hs ⊢
  simp only [addS]
  omega
theorem zS_ok : SmOk zS := by simp [SmOk, zS]
def wtS (wt : List Int) : Nat → Int
  | 0 => 0
  | k + 1 => wtS wt k + wt.getD k 0
structure WtOk (wt : List Int) (N : Nat) : Prop where
  len : wt.length = N
  pos : ∀ i, 0 ≤ wt.getD i 0
  tot : wtS wt N ≤ 16384
theorem wtS_pos {wt : List Int} {N : Nat} (h : WtOk wt N) : ∀ k, 0 ≤ wtS wt k
  | 0 => Int.le_refl _
  | k + 1 => by have := wtS_pos h k; have := h.pos k; simp only [wtS]; omega
theorem wtS_mono {wt : List Int} {N : Nat} (h : WtOk wt N) {k m : Nat} (hk : k ≤ m) : wtS wt k ≤ wtS wt m := by
  induction m with
  | zero => have : k = 0 := by omega
            subst this; exact Int.le_refl _
  | succ m ih =>
    by_cases e : k = m + 1
    · subst e; exact Int.le_refl _
    · have := ih (by omega); have := h.pos m; simp only [wtS]; omega
theorem row_succ (v : Vw) (wt : List Int) (x y : Int) (s : Sm) (j k : Nat) : sqRow v wt x y s j (k + 1) = addS (sqRow v wt x y s j k) (pixF v (x + ((k : Int) - v.rad)) (y + ((j : Int) - v.rad))) (wt.getD k 0 * wt.getD j 0) := by
  simp only [sqRow, List.range_succ, List.foldl_append, List.foldl_cons, List.foldl_nil]
theorem sqK_succ (v : Vw) (wt : List Int) (x y : Int) (m k : Nat) : sqK v wt x y m (k + 1) = addS (sqK v wt x y m k) (pixF v (x + ((k : Int) - v.rad)) (y + ((m : Int) - v.rad))) (wt.getD k 0 * wt.getD m 0) := row_succ ..
theorem sqK_over (v : Vw) (wt : List Int) (x y : Int) (m k : Nat) (h : k = (2 * v.rad + 1).toNat) : sqK v wt x y m k = sqK v wt x y (m + 1) 0 := by
  subst h
  simp only [sqK, List.range_succ, List.foldl_append, List.foldl_cons, List.foldl_nil]
  rw [sqRow, sqRow.eq_def v wt x y _ (m + 1)]; simp
theorem row_w (v : Vw) (wt : List Int) (x y : Int) (s : Sm) (j : Nat) : ∀ k, (sqRow v wt x y s j k).w = s.w + wtS wt k * wt.getD j 0
  | 0 => by simp [sqRow, wtS]
  | k + 1 => by rw [row_succ, addS, row_w v wt x y s j k]; simp only [wtS]; rw [Int.add_mul]; omega
theorem sqK_w (v : Vw) (wt : List Int) (x y : Int) : ∀ (m k : Nat), (sqK v wt x y m k).w = wtS wt (2 * v.rad + 1).toNat * wtS wt m + wtS wt k * wt.getD m 0
  | 0, k => by rw [sqK, row_w]; simp [wtS, zS]
  | m + 1, k => by
    have e : (sqK v wt x y (m + 1) k).w = (sqK v wt x y (m + 1) 0).w + wtS wt k * wt.getD (m + 1) 0 := by
      rw [sqK, row_w, sqK, row_w]; simp [wtS]
    rw [e, ← sqK_over v wt x y m _ rfl, sqK_w v wt x y m, wtS, Int.mul_add]
def SqH (v : Vw) (wt : List Int) (x y : Int) : Prop := (0 ≤ v.rad ∧ v.rad ≤ 16) ∧ WtOk wt (2 * v.rad + 1).toNat ∧ (-16777216 ≤ x ∧ x ≤ 16777216 ∧ -16777216 ≤ y ∧ y ≤ 16777216) ∧ ∀ i j : Int, -v.rad ≤ i → i ≤ v.rad → -v.rad ≤ j → j ≤ v.rad → VIn v (x + i) (y + j)
theorem sq_w {v : Vw} {wt : List Int} {x y : Int} (h : SqH v wt x y) {m k : Nat} (hm : m < (2 * v.rad + 1).toNat) (hk : k < (2 * v.rad + 1).toNat) : (sqK v wt x y m k).w + wt.getD k 0 * wt.getD m 0 ≤ 268435456 ∧ 0 ≤ wt.getD k 0 * wt.getD m 0 := by
  have hw := h.2.1
  have p0 := Int.mul_nonneg (hw.pos k) (hw.pos m)
  refine ⟨?_, p0⟩
  generalize hN : (2 * v.rad + 1).toNat = N at *
  rw [sqK_w, hN]
  have a1 : wtS wt k * wt.getD m 0 + wt.getD k 0 * wt.getD m 0 = wtS wt (k + 1) * wt.getD m 0 := by simp only [wtS]; rw [Int.add_mul]
  have a2 : wtS wt (k + 1) * wt.getD m 0 ≤ wtS wt N * wt.getD m 0 := Int.mul_le_mul_of_nonneg_right (wtS_mono hw (by omega)) (hw.pos m)
  have a3 : wtS wt N * wtS wt m + wtS wt N * wt.getD m 0 = wtS wt N * wtS wt (m + 1) := by simp only [wtS]; rw [Int.mul_add]
  have a4 : wtS wt N * wtS wt (m + 1) ≤ wtS wt N * wtS wt N := Int.mul_le_mul_of_nonneg_left (wtS_mono hw (by omega)) (wtS_pos hw N)
  have a5 : wtS wt N * wtS wt N ≤ 16384 * 16384 := Int.mul_le_mul hw.tot hw.tot (wtS_pos hw N) (by omega)
  omega
theorem sq_vin {v : Vw} {wt : List Int} {x y : Int} (h : SqH v wt x y) {m k : Nat} (hm : m < (2 * v.rad + 1).toNat) (hk : k < (2 * v.rad + 1).toNat) : VIn v (x + ((k : Int) - v.rad)) (y + ((m : Int) - v.rad)) :=
  h.2.2.2 _ _ (by omega) (by omega) (by omega) (by omega)
theorem sq_row {v : Vw} {wt : List Int} {x y : Int} (h : SqH v wt x y) {m : Nat} (hm : m < (2 * v.rad + 1).toNat) (h0 : SmOk (sqK v wt x y m 0)) : ∀ k, k ≤ (2 * v.rad + 1).toNat → SmOk (sqK v wt x y m k)
  | 0, _ => h0
  | k + 1, hk => by
    rw [sqK_succ]
    have := sq_w h hm (k := k) (by omega)
    exact (add_ok (sq_row h hm h0 k (by omega)) (pix_ok (sq_vin h hm (by omega))) this.2 this.1).1
theorem sqm_ok {v : Vw} {wt : List Int} {x y : Int} (h : SqH v wt x y) : ∀ m, m ≤ (2 * v.rad + 1).toNat → SmOk (sqK v wt x y m 0)
  | 0, _ => zS_ok
  | m + 1, hm => by
    rw [← sqK_over v wt x y m _ rfl]
    exact sq_row h (by omega) (sqm_ok h m (by omega)) _ (Nat.le_refl _)
theorem sq_all {v : Vw} {wt : List Int} {x y : Int} (h : SqH v wt x y) {m k : Nat} (hm : m < (2 * v.rad + 1).toNat) (hk : k ≤ (2 * v.rad + 1).toNat) : SmOk (sqK v wt x y m k) := sq_row h hm (sqm_ok h m (by omega)) k hk
theorem mn1 {s : Sm} (hc : s.a = 0) : zP = meanS s := by rw [meanS, if_pos hc]
theorem mn2 {s : Sm} (h : ¬ s.a = 0) (hc : divI s.a s.w = 0) : zP = meanS s := by rw [meanS, if_neg h, if_pos hc]
theorem mn3 {s : Sm} (h : ¬ s.a = 0) (hc : ¬ divI s.a s.w = 0) : (⟨divI s.r s.a, divI s.g s.a, divI s.b s.a, divI s.a s.w⟩ : Px) = meanS s := by rw [meanS, if_neg h, if_neg hc]
end Go.Rect

set_option linter.unusedSimpArgs false
set_option linter.unusedVariables false
namespace Go.Rect
open Go.Eng
theorem getD_nn {l : List Int} (h : l.all (fun n => decide (0 ≤ n)) = true) (i : Nat) : 0 ≤ l.getD i 0 := by
  rw [List.all_eq_true] at h
  rw [List.getD_eq_getElem?_getD]
  cases e : l[i]? with
  | none => simp
  | some a => simpa using h a (List.mem_of_getElem? e)
theorem wt_mk {l : List Int} {N : Nat} (h1 : l.length = N) (h2 : l.all (fun n => decide (0 ≤ n)) = true) (h3 : wtS l N ≤ 16384) : WtOk l N := ⟨h1, getD_nn h2, h3⟩
theorem ones_ok {r : Int} (h : 0 ≤ r ∧ r ≤ 16) : WtOk (onesL r) (2 * r + 1).toNat := by
  have : r = 0 ∨ r = 1 ∨ r = 2 ∨ r = 3 ∨ r = 4 ∨ r = 5 ∨ r = 6 ∨ r = 7 ∨ r = 8 ∨ r = 9 ∨ r = 10 ∨ r = 11 ∨ r = 12 ∨ r = 13 ∨ r = 14 ∨ r = 15 ∨ r = 16 := by omega
  rcases this with rfl | rfl | rfl | rfl | rfl | rfl | rfl | rfl | rfl | rfl | rfl | rfl | rfl | rfl | rfl | rfl | rfl <;> exact wt_mk (by decide +kernel) (by decide +kernel) (by decide +kernel)
theorem bino_ok {r : Int} (h : 0 ≤ r ∧ r ≤ 7) : WtOk (tab (2 * r + 1).toNat (pF (2 * r).toNat)) (2 * r + 1).toNat := by
  have : r = 0 ∨ r = 1 ∨ r = 2 ∨ r = 3 ∨ r = 4 ∨ r = 5 ∨ r = 6 ∨ r = 7 := by omega
  rcases this with rfl | rfl | rfl | rfl | rfl | rfl | rfl | rfl <;> exact wt_mk (by decide +kernel) (by decide +kernel) (by decide +kernel)
theorem wt_ok {k : Int} {ps : List Int} (h : fchkE k ps = 0) (hk : k = 1 ∨ k = 2 ∨ k = 3) : WtOk (wtL k (ps.getD 0 0)) (2 * ps.getD 0 0 + 1).toNat := by
  have g := (fk_rg h).2.2.2.1 (by omega) (by omega)
  unfold wtL
  split
  · exact bino_ok (by omega)
  · exact ones_ok (by omega)
theorem grow_in {out : Rc} {r : Int} {p : Pt} (ho : emptyB out = false) (hr : 0 ≤ r ∧ r ≤ 16) (hx : out.x - r ≤ p.x ∧ p.x < out.x + out.w + r) (hy : out.y - r ≤ p.y ∧ p.y < out.y + out.h + r)
    (px : -1048576 ≤ p.x ∧ p.x < 1048576) (py : -1048576 ≤ p.y ∧ p.y < 1048576) : hasB (growR out r) p = true := by
  have he := empty_spec.1 ho
  have e : lim4 r = r := by unfold lim4; omega
  rw [growR, ho, if_neg (by simp), e, betweenR, if_neg (by omega), has_spec, empty_spec]
  simp only; omega
theorem nd_0 {k : Int} {ps : List Int} {out bd : Rc} (h : needE k ps out bd = 0) : fchkE k ps = 0 ∧ emptyB out = false ∧ BdOk bd ∧ hasB bd ⟨out.x, out.y⟩ = true ∧ bd.x ≤ out.x ∧ out.x + out.w ≤ bd.x + bd.w ∧ bd.y ≤ out.y ∧ out.y + out.h ≤ bd.y + bd.h := by
  unfold needE at h
  split at h
  · next g => exact absurd h g
  · next g =>
    split at h
    · omega
    · next b =>
      simp only [badB, Bool.or_eq_true, not_or, Bool.not_eq_true, Bool.not_eq_true', Bool.not_eq_false] at b
      obtain ⟨⟨⟨b1, b2⟩, b3⟩, b4⟩ := b
      rcases within_spec.1 b4 with c | c
      · rw [b3] at c; cases c
      · have e1 := empty_spec.1 b3; have e2 := empty_spec.1 c.1
        refine ⟨by omega, b3, by unfold BdOk; omega, has_spec.2 ⟨c.1, by simp only; omega⟩, c.2⟩
theorem nd_R {k : Int} {ps : List Int} {out bd : Rc} (h : needE k ps out bd = 0) : needR k ps out bd = meetR (growR out (reachI k ps)) bd := by rw [needR, if_pos h]
theorem nd_in {k : Int} {ps : List Int} {out bd : Rc} {x y R : Int} (h : needE k ps out bd = 0) (hR : reachI k ps = R) (hR2 : 0 ≤ R ∧ R ≤ 16) (hx : out.x - R ≤ x ∧ x < out.x + out.w + R) (hy : out.y - R ≤ y ∧ y < out.y + out.h + R) :
    hasB (needR k ps out bd) ⟨min (max x bd.x) (bd.x + bd.w - 1), min (max y bd.y) (bd.y + bd.h - 1)⟩ = true := by
  obtain ⟨h1, h2, h3, h4, h5⟩ := nd_0 h
  have he := empty_spec.1 h2
  rw [nd_R h, meet_has, hR, Bool.and_eq_true]
  unfold BdOk at h3
  refine ⟨grow_in h2 hR2 (by simp only; omega) (by simp only; omega) (by simp only; omega) (by simp only; omega), ?_⟩
  have h6 := has_spec.1 h4
  exact has_spec.2 ⟨h6.1, by simp only; omega⟩
def Shw (i : Im) (o : Pt) (n : Rc) : Prop := o.x ≤ n.x ∧ n.x + n.w - i.w ≤ o.x ∧ o.y ≤ n.y ∧ n.y + n.h - i.h ≤ o.y
theorem shw {i : Im} {o : Pt} {n : Rc} (h : showB i o n = true) : Shw i o n := by
  simp only [showB, Bool.and_eq_true, decide_eq_true_eq] at h; unfold Shw; omega
theorem vin_of {i : Im} {o : Pt} {bd out : Rc} {k : Int} {ps ps' : List Int} {R r x y : Int} (hi : ichkE i = 0) (h : needE k ps out bd = 0) (hs : Shw i o (needR k ps out bd)) (hR : reachI k ps = R) (hR2 : 0 ≤ R ∧ R ≤ 16)
    (hx : out.x - R ≤ x ∧ x < out.x + out.w + R) (hy : out.y - R ≤ y ∧ y < out.y + out.h + R) : VIn ⟨i, o, bd, k, ps', r⟩ x y := by
  have h1 := has_spec.1 (nd_in h hR hR2 hx hy)
  simp only at h1
  unfold Shw at hs
  refine ⟨hi, (nd_0 h).2.2.1, ?_, ?_⟩ <;> simp only [cxI, cyI] <;> omega
theorem reach_1 {k : Int} {ps : List Int} (h : fchkE k ps = 0) (hk : k = 1 ∨ k = 2 ∨ k = 3 ∨ k = 4 ∨ k = 7 ∨ k = 8) : reachI k ps = ps.getD 0 0 ∧ 0 ≤ ps.getD 0 0 ∧ ps.getD 0 0 ≤ 16 := by
  have g := (fk_rg h).2.2.2.1 (by omega) (by omega)
  refine ⟨?_, by omega, by omega⟩
  rw [reachI, if_neg (by omega), if_neg (by omega), if_neg (by omega), if_neg (by omega)]
theorem ap_sq {i : Im} {o : Pt} {bd out : Rc} {k : Int} {ps : List Int} {x y : Nat} (hk : k = 1 ∨ k = 2 ∨ k = 3) (hi : ichkE i = 0) (h : needE k ps out bd = 0) (hs : Shw i o (needR k ps out bd)) (hx : (x : Int) < out.w) (hy : (y : Int) < out.h) :
    SqH (vwOf i o bd k ps) (wtL k (ps.getD 0 0)) (out.x + x) (out.y + y) := by
  obtain ⟨h1, h2, _⟩ := nd_0 h
  have he := empty_spec.1 h2
  have hr := reach_1 h1 (by omega)
  refine ⟨hr.2, wt_ok h1 hk, by omega, fun a b a1 a2 b1 b2 => ?_⟩
  simp only [vwOf] at a1 a2 b1 b2
  exact vin_of hi h hs hr.1 hr.2 (by omega) (by omega)
theorem ap_z {i : Im} {o : Pt} {bd out : Rc} {k : Int} {ps : List Int} (hi : ichkE i = 0) (h : needE k ps out bd = 0) (hs : Shw i o (needR k ps out bd)) (hR : 0 ≤ reachI k ps ∧ reachI k ps ≤ 16) : Z0 out.w out.h := by
  have hz := (ichk0 hi).1
  obtain ⟨h1, h2, h3, h4, h5⟩ := nd_0 h
  have he := empty_spec.1 h2
  unfold BdOk at h3
  have a1 := has_spec.1 (nd_in (x := out.x) (y := out.y) h rfl hR (by omega) (by omega))
  have a2 := has_spec.1 (nd_in (x := out.x + out.w - 1) (y := out.y + out.h - 1) h rfl hR (by omega) (by omega))
  simp only at a1 a2
  unfold Shw at hs
  unfold Z0 at hz ⊢
  omega
theorem gP_at {w y x : Nat} {F : Int → Int → Px} (hx : x < w) : gP w F (y * w + x) = F x y := by
  unfold gP
  rw [Nat.mul_comm y, Nat.mul_add_mod, Nat.mod_eq_of_lt hx, Nat.mul_add_div (by omega), Nat.div_eq_of_lt hx, Nat.add_zero]
theorem ap1 {i : Im} {o : Pt} {bd out : Rc} {k : Int} {ps : List Int} (hc : ¬ ichkE i = 0) : appR i o bd k ps out = ⟨0, 0, []⟩ ∧ appE i o bd k ps out = ichkE i := by
  have e : appE i o bd k ps out = ichkE i := by rw [appE, if_pos hc]
  exact ⟨by rw [appR, e, if_neg hc]; rfl, e⟩
theorem ap2 {i : Im} {o : Pt} {bd out : Rc} {k : Int} {ps : List Int} (h : ichkE i = 0) (hc : ¬ needE k ps out bd = 0) : appR i o bd k ps out = ⟨0, 0, []⟩ ∧ appE i o bd k ps out = needE k ps out bd := by
  have e : appE i o bd k ps out = needE k ps out bd := by rw [appE, if_neg (by omega), if_pos hc]
  exact ⟨by rw [appR, e, if_neg hc]; rfl, e⟩
theorem ap3 {i : Im} {o : Pt} {bd out : Rc} {k : Int} {ps : List Int} (h : ichkE i = 0) (h2 : needE k ps out bd = 0) (hc : showB i o (needR k ps out bd) = false) : appR i o bd k ps out = ⟨0, 0, []⟩ ∧ appE i o bd k ps out = 15 := by
  have e : appE i o bd k ps out = 15 := by rw [appE, if_neg (by omega), if_neg (by omega), hc]; rfl
  exact ⟨by rw [appR, e]; rfl, e⟩
theorem ap4 {i : Im} {o : Pt} {bd out : Rc} {k : Int} {ps : List Int} (h : ichkE i = 0) (h2 : needE k ps out bd = 0) (hc : showB i o (needR k ps out bd) = true) :
    appR i o bd k ps out = ⟨out.w, out.h, tabP (nn out.w out.h) (gP out.w.toNat (appF (vwOf i o bd k ps) (wtL k (ps.getD 0 0)) out))⟩ ∧ appE i o bd k ps out = 0 := by
  have e : appE i o bd k ps out = 0 := by rw [appE, if_neg (by omega), if_neg (by omega), hc]; rfl
  exact ⟨by rw [appR, e]; rfl, e⟩
theorem fallP {w h : Int} {y : Nat} {f g : Nat → Px} (hY : y ≤ h.toNat) (hc : h ≤ (y : Int)) : filP (nn w h) f g (y * w.toNat) = tabP (nn w h) f := by
  have : y = h.toNat := by omega
  subst this
  exact filP_all fun i h1 h2 => by unfold nn at h2; rw [Nat.mul_comm] at h1; omega
theorem repZ (n : Nat) (f : Nat → Px) : (List.replicate n zP).map pxC = (filP n f (fun _ => zP) 0).map pxC := by
  congr 1
  rw [filP]
  apply List.ext_getElem?
  intro k
  by_cases h : k < n
  · simp [tabP, List.getElem?_range h, h]
  · rw [List.getElem?_eq_none (by simp; omega), List.getElem?_eq_none (by rw [tabP_len]; omega)]
theorem clr1 {p : Px} (h : ¬ p.a = 0) : p = clrP p := by rw [clrP, if_neg h]
theorem clr2 {p : Px} (h : p.a = 0) : zP = clrP p := by rw [clrP, if_pos h]
theorem wh1 {i : Im} {k : Int} {ps : List Int} (hc : ¬ ichkE i = 0) : whlR i k ps = ⟨0, 0, []⟩ ∧ whlE i k ps = ichkE i := by
  have e : whlE i k ps = ichkE i := by rw [whlE, if_pos hc]
  exact ⟨by rw [whlR, e, if_neg (by omega)]; rfl, e⟩
theorem wh2 {i : Im} {k : Int} {ps : List Int} (h : ichkE i = 0) (hc : ¬ fchkE k ps = 0) : whlR i k ps = ⟨0, 0, []⟩ ∧ whlE i k ps = fchkE k ps := by
  have e : whlE i k ps = fchkE k ps := by rw [whlE, if_neg (by omega), if_pos hc]
  exact ⟨by rw [whlR, e, if_neg (by omega)]; rfl, e⟩
theorem wh3 {i : Im} {k : Int} {ps : List Int} (h : ichkE i = 0) (h2 : fchkE k ps = 0) (hc : i.w = 0) : whlR i k ps = ⟨0, 0, []⟩ ∧ whlE i k ps = 0 := by
  have e : whlE i k ps = 0 := by rw [whlE, if_neg (by omega), if_neg (by omega), if_pos hc]
  exact ⟨by rw [whlR, e, if_neg (by omega)]; rfl, e⟩
theorem wh4 {i : Im} {k : Int} {ps : List Int} (h : ichkE i = 0) (h2 : fchkE k ps = 0) (hc : ¬ i.w = 0) : whlR i k ps = appR i ⟨0, 0⟩ ⟨0, 0, i.w, i.h⟩ k ps ⟨0, 0, i.w, i.h⟩ ∧ whlE i k ps = appE i ⟨0, 0⟩ ⟨0, 0, i.w, i.h⟩ k ps ⟨0, 0, i.w, i.h⟩ := by
  have e : whlE i k ps = appE i ⟨0, 0⟩ ⟨0, 0, i.w, i.h⟩ k ps ⟨0, 0, i.w, i.h⟩ := by rw [whlE, if_neg (by omega), if_neg (by omega), if_neg hc]
  refine ⟨?_, e⟩
  rw [whlR, e]
  split
  · rfl
  · next g => rw [appR, if_neg (fun hh => g ⟨hh, hc⟩)]
theorem nv1 {k : Int} {ps : List Int} {j : Nat} (h : k = 1 ∨ k = 3) (hj : (2 * ps.getD 0 0 + 1).toNat ≤ j) : (fil (2 * ps.getD 0 0 + 1).toNat (fun _ => 1) j).map iC = (wtL k (ps.getD 0 0)).map iC := by
  rw [fil_all hj, wtL, if_neg (by omega), onesL]
theorem nv2 {k : Int} {ps : List Int} (h : k = 2) (hr : 0 ≤ ps.getD 0 0) : (tab ((2 * ps.getD 0 0).toNat + 1) (pF (2 * ps.getD 0 0).toNat)).map iC = (wtL k (ps.getD 0 0)).map iC := by
  rw [wtL, if_pos h, show (2 * ps.getD 0 0 + 1).toNat = (2 * ps.getD 0 0).toNat + 1 by omega]
theorem ff1 {v : Vw} {wt : List Int} {x y : Int} (hk : v.kind = 1 ∨ v.kind = 2) : meanS (sqS v wt x y) = filF v wt x y := by rw [filF, if_pos hk]
theorem wh5 {a b : Im} {e e' : Int} (h : a = b ∧ e = e') : (b.w = a.w ∧ b.h = a.h ∧ b.p.map pxC = a.p.map pxC) ∧ e' = e := by obtain ⟨rfl, rfl⟩ := h; exact ⟨⟨rfl, rfl, rfl⟩, rfl⟩
def exI : Im := ⟨3, 3, (List.replicate 9 zP).set 4 ⟨65535, 65535, 65535, 65535⟩⟩
theorem unIV (n : Int) : unI [.i n] = n := rfl
theorem toN4 : Int.toNat 4 = 4 := rfl
theorem exU : unIm [D.i 3, D.i 3, D.sl 4 (List.take (Int.toNat 9) ((List.map pxC (List.replicate (Int.toNat 9) zP)).set (Int.toNat 4) [D.i 65535, D.i 65535, D.i 65535, D.i 65535]))] = exI := rfl
theorem exB : (whlR exI 1 [1]).p.length = 9 ∧ (whlR exI 1 [1]).p.getD 0 zP = ⟨65535, 65535, 65535, 7282⟩ ∧ (whlR exI 1 [1]).p.getD 4 zP = ⟨65535, 65535, 65535, 7282⟩ ∧ whlE exI 1 [1] = 0 := by decide +kernel
theorem exG : (whlR exI 2 [1]).p.length = 9 ∧ (whlR exI 2 [1]).p.getD 4 zP = ⟨65535, 65535, 65535, 16384⟩ ∧ whlE exI 2 [1] = 0 := by decide +kernel
end Go.Rect

namespace Go.Rect
theorem c9e : ((9 : Nat) : Int) = 9 := rfl
end Go.Rect

