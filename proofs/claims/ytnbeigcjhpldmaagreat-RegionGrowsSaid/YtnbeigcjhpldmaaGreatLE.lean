import Derived.Test.YtnbeigcjhpldmaaGreatLD
import Derived.Test.YtnbeigcjhpldmaaGreatLA
import Derived.Test.YtnbeigcjhpldmaaGreatEF
set_option linter.unusedSimpArgs false
set_option linter.unusedVariables false
set_option linter.unusedSimpArgs false
set_option linter.unusedVariables false
namespace Go.Rect
open Go.Eng
def spL (k : Int) : List Pt :=
  if k = 1 ∨ k = 7 ∨ k = 8 then [⟨0, 16⟩] else if k = 2 then [⟨0, 7⟩] else if k = 4 then [⟨0, 4⟩] else if k = 3 then [⟨0, 16⟩, ⟨0, 262140⟩]
  else if k = 9 then [⟨-16, 16⟩, ⟨-16, 16⟩] else if k = 10 then [⟨1, 16⟩] else []
def inSp (n : Int) (s : Pt) : Bool := decide (s.x ≤ n) && decide (n ≤ s.y)
def okPs (ss : List Pt) (ps : List Int) (k : Nat) : Bool := (List.range k).all fun j => inSp (ps.getD j 0) (ss.getD j ⟨0, 0⟩)
def fchkE (k : Int) (ps : List Int) : Int := if k < 1 ∨ 10 < k then 8 else if ps.length ≠ (spL k).length then 1 else if okPs (spL k) ps ps.length then 0 else 2
def abs2 (n : Int) : Int := max n (-n)
def reachI (k : Int) (ps : List Int) : Int :=
  if fchkE k ps ≠ 0 then 0 else if k = 5 ∨ k = 6 then 1 else if k = 9 then max (abs2 (ps.getD 0 0)) (abs2 (ps.getD 1 0)) else if k = 10 then ps.getD 0 0 - 1 else ps.getD 0 0
def badB (out bd : Rc) : Bool := !validB out || !validB bd || emptyB out || !withinB out bd
def needE (k : Int) (ps : List Int) (out bd : Rc) : Int := if fchkE k ps ≠ 0 then fchkE k ps else if badB out bd then 2 else 0
def needR (k : Int) (ps : List Int) (out bd : Rc) : Rc := if needE k ps out bd = 0 then meetR (growR out (reachI k ps)) bd else zR
structure Vw where
  src : Im
  o : Pt
  bd : Rc
  kind : Int
  ps : List Int
  rad : Int
def vwC (v : Vw) (a b c d e : D) : List D := [.i v.src.w, .i v.src.h, .sl 4 (v.src.p.map pxC), .i v.o.x, .i v.o.y, .i v.bd.x, .i v.bd.y, .i v.bd.w, .i v.bd.h, .i v.kind, .sl 1 (v.ps.map iC), .i v.rad, a, b, c, d, e]
def cxI (v : Vw) (x : Int) : Int := min (max x v.bd.x) (v.bd.x + v.bd.w - 1)
def cyI (v : Vw) (y : Int) : Int := min (max y v.bd.y) (v.bd.y + v.bd.h - 1)
def pixF (v : Vw) (x y : Int) : Px := v.src.p.getD ((cyI v y - v.o.y) * v.src.w + (cxI v x - v.o.x)).toNat zP
structure Sm where
  r : Int
  g : Int
  b : Int
  a : Int
  w : Int
  deriving DecidableEq
def smC (s : Sm) : List D := [.i s.r, .i s.g, .i s.b, .i s.a, .i s.w]
def smD (s : Sm) : D := .agg (smC s)
def unSm : List D → Sm
  | [.i r, .i g, .i b, .i a, .i w] => ⟨r, g, b, a, w⟩
  | _ => ⟨0, 0, 0, 0, 0⟩
def zS : Sm := ⟨0, 0, 0, 0, 0⟩
def addS (s : Sm) (p : Px) (w : Int) : Sm := ⟨s.r + w * p.a * p.r, s.g + w * p.a * p.g, s.b + w * p.a * p.b, s.a + w * p.a, s.w + w⟩
def meanS (s : Sm) : Px := if s.a = 0 then zP else if divI s.a s.w = 0 then zP else ⟨divI s.r s.a, divI s.g s.a, divI s.b s.a, divI s.a s.w⟩
def sqRow (v : Vw) (wt : List Int) (x y : Int) (s : Sm) (j k : Nat) : Sm := (List.range k).foldl (fun s (i : Nat) => addS s (pixF v (x + ((i : Int) - v.rad)) (y + ((j : Int) - v.rad))) (wt.getD i 0 * wt.getD j 0)) s
def sqK (v : Vw) (wt : List Int) (x y : Int) (m k : Nat) : Sm := sqRow v wt x y ((List.range m).foldl (fun s j => sqRow v wt x y s j (2 * v.rad + 1).toNat) zS) m k
def sqS (v : Vw) (wt : List Int) (x y : Int) : Sm := sqK v wt x y (2 * v.rad + 1).toNat 0
def onesL (r : Int) : List Int := tab (2 * r + 1).toNat fun _ => 1
def wtL (k r : Int) : List Int := if k = 2 then tab (2 * r + 1).toNat (pF (2 * r).toNat) else onesL r
def vwOf (i : Im) (o : Pt) (bd : Rc) (k : Int) (ps : List Int) : Vw := ⟨i, o, bd, k, ps, ps.getD 0 0⟩
def chn : Nat → Px → Int
  | 0, p => p.r
  | 1, p => p.g
  | 2, p => p.b
  | _, p => p.a
def winR (v : Vw) (x y : Int) (c j k : Nat) : List Int := (List.range k).map fun (i : Nat) => chn c (pixF v (x + ((i : Int) - v.rad)) (y + ((j : Int) - v.rad)))
def winK (v : Vw) (x y : Int) (c m k : Nat) : List Int := (List.range m).flatMap (fun j => winR v x y c j (2 * v.rad + 1).toNat) ++ winR v x y c m k
def winS (v : Vw) (x y : Int) (c : Nat) : List Int := winK v x y c (2 * v.rad + 1).toNat 0
def sortL (l : List Int) : List Int := l.mergeSort fun x y => decide (x ≤ y)
def maxO (l : List Int) : Int := l.foldl max (l.getD 0 0)
def minO (l : List Int) : Int := l.foldl min (l.getD 0 0)
def selI (k : Int) (l : List Int) : Int := if k = 4 then (sortL l).getD (l.length / 2) 0 else if k = 7 then maxO l else minO l
def rankF (v : Vw) (x y : Int) : Px := ⟨selI v.kind (winS v x y 0), selI v.kind (winS v x y 1), selI v.kind (winS v x y 2), selI v.kind (winS v x y 3)⟩
def sqN (N : Nat) : Nat → Nat
  | 0 => 0
  | j + 1 => if (sqN N j + 2 ^ (63 - j)) * (sqN N j + 2 ^ (63 - j)) ≤ N then sqN N j + 2 ^ (63 - j) else sqN N j
def hypN (x y : Int) : Nat := x.natAbs * x.natAbs + y.natAbs * y.natAbs
def hypI (x y : Int) : Int := if 9223372036854775807 < (sqN (hypN x y) 64 : Int) then 9223372036854775807 else (sqN (hypN x y) 64 : Int)
def lumI (p : Px) : Int := divI (13933 * (limP p).r + 46871 * (limP p).g + 4731 * (limP p).b) 65535
def grayP (c a : Int) : Px := ⟨unitI c, unitI c, unitI c, a⟩
def awayI (am c s a : Int) : Int := unitI (c + divI (am * (c - divI s a)) 65535)
def sharpP (am : Int) (p : Px) (s : Sm) : Px := if p.a = 0 then zP else ⟨awayI am p.r s.r s.a, awayI am p.g s.g s.a, awayI am p.b s.b s.a, p.a⟩
def sharpF (v : Vw) (wt : List Int) (x y : Int) : Px := sharpP (v.ps.getD 1 0) (pixF v x y) (sqS v wt x y)
def lumF (v : Vw) (x y : Int) : Int := lumI (pixF v x y)
def edgX (v : Vw) (x y : Int) : Int := (lumF v (x + 1) (y - 1) + 2 * lumF v (x + 1) y + lumF v (x + 1) (y + 1)) - (lumF v (x - 1) (y - 1) + 2 * lumF v (x - 1) y + lumF v (x - 1) (y + 1))
def edgY (v : Vw) (x y : Int) : Int := (lumF v (x - 1) (y + 1) + 2 * lumF v x (y + 1) + lumF v (x + 1) (y + 1)) - (lumF v (x - 1) (y - 1) + 2 * lumF v x (y - 1) + lumF v (x + 1) (y - 1))
def edgeF (v : Vw) (x y : Int) : Px := grayP (hypI (edgX v x y) (edgY v x y)) (pixF v x y).a
def embF (v : Vw) (x y : Int) : Px := grayP (32768 + lumF v (x + 1) (y + 1) - lumF v (x - 1) (y - 1)) (pixF v x y).a
def motN (v : Vw) : Int := max (abs2 (v.ps.getD 0 0)) (abs2 (v.ps.getD 1 0))
def motP (v : Vw) (x y : Int) (j : Nat) : Px := pixF v (x + divI ((j : Int) * v.ps.getD 0 0) (motN v)) (y + divI ((j : Int) * v.ps.getD 1 0) (motN v))
def motK (v : Vw) (x y : Int) (k : Nat) : Sm := (List.range k).foldl (fun s j => addS s (motP v x y j) 1) zS
def motF (v : Vw) (x y : Int) : Px := meanS (motK v x y ((motN v).toNat + 1))
def blk (b z x : Int) : Int := b + (x - b) / z * z
def pgRow (v : Vw) (x0 y : Int) (s : Sm) (k : Nat) : Sm := (List.range k).foldl (fun s (i : Nat) => addS s (pixF v (x0 + i) y) 1) s
def pgK (v : Vw) (x0 y0 : Int) (W m k : Nat) : Sm := pgRow v x0 (y0 + m) ((List.range m).foldl (fun s (j : Nat) => pgRow v x0 (y0 + j) s W) zS) k
def pgX (v : Vw) (x : Int) : Int := blk v.bd.x (v.ps.getD 0 0) x
def pgY (v : Vw) (y : Int) : Int := blk v.bd.y (v.ps.getD 0 0) y
def pgW (v : Vw) (x : Int) : Nat := (min (pgX v x + v.ps.getD 0 0) (v.bd.x + v.bd.w) - pgX v x).toNat
def pgH (v : Vw) (y : Int) : Nat := (min (pgY v y + v.ps.getD 0 0) (v.bd.y + v.bd.h) - pgY v y).toNat
def pxlF (v : Vw) (x y : Int) : Px := meanS (pgK v (pgX v x) (pgY v y) (pgW v x) (pgH v y) 0)
def filF (v : Vw) (wt : List Int) (x y : Int) : Px :=
  if v.kind = 1 ∨ v.kind = 2 then meanS (sqS v wt x y) else if v.kind = 4 ∨ v.kind = 7 ∨ v.kind = 8 then rankF v x y
  else if v.kind = 3 then sharpF v wt x y else if v.kind = 5 then edgeF v x y else if v.kind = 6 then embF v x y else if v.kind = 9 then motF v x y else pxlF v x y
def clrP (p : Px) : Px := if p.a = 0 then zP else p
def showB (i : Im) (o : Pt) (n : Rc) : Bool := decide (o.x ≤ n.x) && decide (n.x + n.w - i.w ≤ o.x) && decide (o.y ≤ n.y) && decide (n.y + n.h - i.h ≤ o.y)
def gP (w : Nat) (F : Int → Int → Px) (k : Nat) : Px := F ((k % w : Nat) : Int) ((k / w : Nat) : Int)
def appE (i : Im) (o : Pt) (bd : Rc) (k : Int) (ps : List Int) (out : Rc) : Int :=
  if ichkE i ≠ 0 then ichkE i else if needE k ps out bd ≠ 0 then needE k ps out bd else if showB i o (needR k ps out bd) then 0 else 15
def appF (v : Vw) (wt : List Int) (out : Rc) (x y : Int) : Px := clrP (filF v wt (out.x + x) (out.y + y))
def appR (i : Im) (o : Pt) (bd : Rc) (k : Int) (ps : List Int) (out : Rc) : Im :=
  if appE i o bd k ps out = 0 then ⟨out.w, out.h, tabP (nn out.w out.h) (gP out.w.toNat (appF (vwOf i o bd k ps) (wtL k (ps.getD 0 0)) out))⟩ else zI
def whlE (i : Im) (k : Int) (ps : List Int) : Int :=
  if ichkE i ≠ 0 then ichkE i else if fchkE k ps ≠ 0 then fchkE k ps else if i.w = 0 then 0 else appE i ⟨0, 0⟩ ⟨0, 0, i.w, i.h⟩ k ps ⟨0, 0, i.w, i.h⟩
def whlR (i : Im) (k : Int) (ps : List Int) : Im := if whlE i k ps = 0 ∧ i.w ≠ 0 then appR i ⟨0, 0⟩ ⟨0, 0, i.w, i.h⟩ k ps ⟨0, 0, i.w, i.h⟩ else zI
def pixD : List D → Int → Int → Px
  | [.i w, .i h, .sl _ p, .i ox, .i oy, .i bx, .i by', .i bw, .i bh, .i k, .sl _ ps, .i r, _, _, _, _, _], x, y => pixF ⟨⟨w, h, p.map unPx⟩, ⟨ox, oy⟩, ⟨bx, by', bw, bh⟩, k, ps.map unI, r⟩ x y
  | _, _, _ => zP
def sqD : List D → Int → Int → Sm
  | [.i w, .i h, .sl _ p, .i ox, .i oy, .i bx, .i by', .i bw, .i bh, .i k, .sl _ ps, .i r, .sl _ wt, _, _, _, _], x, y => sqS ⟨⟨w, h, p.map unPx⟩, ⟨ox, oy⟩, ⟨bx, by', bw, bh⟩, k, ps.map unI, r⟩ (wt.map unI) x y
  | _, _, _ => zS
def vwU : List D → Vw
  | [.i w, .i h, .sl _ p, .i ox, .i oy, .i bx, .i by', .i bw, .i bh, .i k, .sl _ ps, .i r, _, _, _, _, _] => ⟨⟨w, h, p.map unPx⟩, ⟨ox, oy⟩, ⟨bx, by', bw, bh⟩, k, ps.map unI, r⟩
  | _ => ⟨⟨0, 0, []⟩, ⟨0, 0⟩, ⟨0, 0, 0, 0⟩, 0, [], 0⟩
def wtU : List D → List Int
  | [_, _, _, _, _, _, _, _, _, _, _, _, .sl _ wt, _, _, _, _] => wt.map unI
  | _ => []
def radK (k : Int) (ps : List Int) : Int := if k = 5 ∨ k = 6 ∨ k = 9 ∨ k = 10 then 0 else ps.getD 0 0
def wtD (k r : Int) : D := if k = 5 ∨ k = 6 ∨ k = 9 ∨ k = 10 then .v (.slice none 0 0) else .sl 1 ((wtL k r).map iC)
end Go.Rect

set_option linter.unusedSimpArgs false
set_option linter.unusedVariables false
namespace Go.Rect
instance {r : Rc} {x y : Int} : Decidable (hasI r x y) := inferInstanceAs (Decidable (_ ∧ _))
def inLb (l : List Rc) (x y : Int) : Bool := l.any fun r => decide (hasI r x y)
theorem inLb_in {l : List Rc} {x y : Int} : inLb l x y = true ↔ inLs l x y := by
  simp only [inLb, List.any_eq_true, decide_eq_true_eq, inLs]
def edX : List Rc → List Int
  | [] => []
  | r :: l => r.x :: (r.x + r.w) :: edX l
def edY : List Rc → List Int
  | [] => []
  | r :: l => r.y :: (r.y + r.h) :: edY l
theorem inLb_cons {r : Rc} {l : List Rc} {x y : Int} : inLb (r :: l) x y = (decide (hasI r x y) || inLb l x y) := rfl
theorem inLb_KY : ∀ {l : List Rc} {y y' x : Int}, (∀ e ∈ edY l, e ≤ y ↔ e ≤ y') → inLb l x y = inLb l x y'
  | [], _, _, _, _ => rfl
  | r :: l, y, y', x, h => by
    have h1 := h r.y (by simp [edY])
    have h2 := h (r.y + r.h) (by simp [edY])
    rw [inLb_cons, inLb_cons, inLb_KY (l := l) fun e he => h e (by simp [edY, he])]
    congr 1
    rw [decide_eq_decide, hasI, hasI]
    omega
theorem inLb_KX : ∀ {l : List Rc} {x x' y : Int}, (∀ e ∈ edX l, e ≤ x ↔ e ≤ x') → inLb l x y = inLb l x' y
  | [], _, _, _, _ => rfl
  | r :: l, x, x', y, h => by
    have h1 := h r.x (by simp [edX])
    have h2 := h (r.x + r.w) (by simp [edX])
    rw [inLb_cons, inLb_cons, inLb_KX (l := l) fun e he => h e (by simp [edX, he])]
    congr 1
    rw [decide_eq_decide, hasI, hasI]
    omega
theorem inLb_OY : ∀ {l : List Rc} {y x : Int}, ((∀ e ∈ edY l, e ≤ y) ∨ ∀ e ∈ edY l, y < e) → inLb l x y = false
  | [], _, _, _ => rfl
  | r :: l, y, x, h => by
    rw [inLb_cons, inLb_OY (l := l) (h.imp (fun h e he => h e (by simp [edY, he])) fun h e he => h e (by simp [edY, he])), Bool.or_false, decide_eq_false_iff_not, hasI]
    rcases h with h | h
    · have := h (r.y + r.h) (by simp [edY]); omega
    · have := h r.y (by simp [edY]); omega
theorem inLb_OX : ∀ {l : List Rc} {x y : Int}, ((∀ e ∈ edX l, e ≤ x) ∨ ∀ e ∈ edX l, x < e) → inLb l x y = false
  | [], _, _, _ => rfl
  | r :: l, x, y, h => by
    rw [inLb_cons, inLb_OX (l := l) (h.imp (fun h e he => h e (by simp [edX, he])) fun h e he => h e (by simp [edX, he])), Bool.or_false, decide_eq_false_iff_not, hasI]
    rcases h with h | h
    · have := h (r.x + r.w) (by simp [edX]); omega
    · have := h r.x (by simp [edX]); omega
variable {keep : Bool → Bool → Bool} {a b : List Rc}
theorem brow_spec (h0 : keep false false = false) {xs : List Int} (hx : Asc xs) (hE : ∀ e, e ∈ xs ↔ e ∈ edX a ++ edX b) (y : Int) :
    Mx (runC (fun x => keep (inLb a x y) (inLb b x y)) [] xs) ∧ ∀ z, inR (runC (fun x => keep (inLb a x y) (inLb b x y)) [] xs) z ↔ keep (inLb a z y) (inLb b z y) = true := by
  refine runL_all hx hE (fun x x' h => ?_) (fun x h => ?_) fun x h => ?_
  · rw [inLb_KX (l := a) fun e he => h e (by simp [he]), inLb_KX (l := b) fun e he => h e (by simp [he])]
  · rw [inLb_OX (l := a) (.inl fun e he => h e (by simp [he])), inLb_OX (l := b) (.inl fun e he => h e (by simp [he])), h0]
  · rw [inLb_OX (l := a) (.inr fun e he => h e (by simp [he])), inLb_OX (l := b) (.inr fun e he => h e (by simp [he])), h0]
theorem bands_spec (h0 : keep false false = false) {f : Int → List Rw} (hf : ∀ y, Mx (f y)) (hS : ∀ x y, inR (f y) x ↔ keep (inLb a x y) (inLb b x y) = true)
    {ys : List Int} (hy : Asc ys) (hE : ∀ e, e ∈ ys ↔ e ∈ edY a ++ edY b) :
    CanB (canL f [] ys) ∧ ∀ x y, inBd (canL f [] ys) x y ↔ keep (inLb a x y) (inLb b x y) = true := by
  refine canL_all (S := fun x y => keep (inLb a x y) (inLb b x y) = true) hf hS hy hE (fun y y' h x => ?_) (fun y h x => ?_) fun y h x => ?_
  · rw [inLb_KY (l := a) fun e he => h e (by simp [he]), inLb_KY (l := b) fun e he => h e (by simp [he])]
  · rw [inLb_OY (l := a) (.inl fun e he => h e (by simp [he])), inLb_OY (l := b) (.inl fun e he => h e (by simp [he])), h0]; decide
  · rw [inLb_OY (l := a) (.inr fun e he => h e (by simp [he])), inLb_OY (l := b) (.inr fun e he => h e (by simp [he])), h0]; decide
end Go.Rect

set_option linter.unusedSimpArgs false
set_option linter.unusedVariables false
namespace Go.Rect
open Go.Eng
def rcnt (k : Int) : Int := if k = 5 ∨ k = 6 then 0 else if k = 3 ∨ k = 9 then 2 else 1
theorem toN1i : Int.toNat 1 = 1 := rfl
def k3 (k : Int) : Bool := k == 1 || k == 7 || k == 8
theorem ok1 {k : Int} {ps : List Int} {s : Pt} (h : spL k = [s]) (hn : ps.length = 1) : inSp (ps.getD 0 0) s = okPs (spL k) ps ps.length := by
  rw [h, hn]; simp [okPs, List.range_succ]
theorem ok0 {k : Int} {ps : List Int} (hn : ps.length = 0) : true = okPs (spL k) ps ps.length := by
  rw [hn]; simp [okPs]
end Go.Rect

set_option linter.unusedSimpArgs false
set_option linter.unusedVariables false
namespace Go.Rect
open Go.Eng
def dOfs (c : List AV) : List D := (allDat c).getD []
def BdOk (r : Rc) : Prop := (-1048576 ≤ r.x ∧ 0 < r.w ∧ r.x + r.w ≤ 1048576) ∧ (-1048576 ≤ r.y ∧ 0 < r.h ∧ r.y + r.h ≤ 1048576)
def VIn (v : Vw) (x y : Int) : Prop := ichkE v.src = 0 ∧ BdOk v.bd ∧ (0 ≤ cxI v x - v.o.x ∧ cxI v x - v.o.x < v.src.w) ∧ (0 ≤ cyI v y - v.o.y ∧ cyI v y - v.o.y < v.src.h)
def SmOk (s : Sm) : Prop := 0 ≤ s.w ∧ s.w ≤ 268435456 ∧ 0 ≤ s.a ∧ s.a ≤ 65535 * s.w ∧ (0 ≤ s.r ∧ s.r ≤ 65535 * s.a) ∧ (0 ≤ s.g ∧ s.g ≤ 65535 * s.a) ∧ (0 ≤ s.b ∧ s.b ≤ 65535 * s.a)
def wtS (wt : List Int) : Nat → Int
  | 0 => 0
  | k + 1 => wtS wt k + wt.getD k 0
structure WtOk (wt : List Int) (N : Nat) : Prop where
  len : wt.length = N
  pos : ∀ i, 0 ≤ wt.getD i 0
  tot : wtS wt N ≤ 16384
def SqH (v : Vw) (wt : List Int) (x y : Int) : Prop := (0 ≤ v.rad ∧ v.rad ≤ 16) ∧ WtOk wt (2 * v.rad + 1).toNat ∧ (-16777216 ≤ x ∧ x ≤ 16777216 ∧ -16777216 ≤ y ∧ y ≤ 16777216) ∧ ∀ i j : Int, -v.rad ≤ i → i ≤ v.rad → -v.rad ≤ j → j ≤ v.rad → VIn v (x + i) (y + j)
end Go.Rect

set_option linter.unusedSimpArgs false
set_option linter.unusedVariables false
namespace Go.Rect
open Go.Eng
def Shw (i : Im) (o : Pt) (n : Rc) : Prop := o.x ≤ n.x ∧ n.x + n.w - i.w ≤ o.x ∧ o.y ≤ n.y ∧ n.y + n.h - i.h ≤ o.y
def exI : Im := ⟨3, 3, (List.replicate 9 zP).set 4 ⟨65535, 65535, 65535, 65535⟩⟩
theorem unIV (n : Int) : unI [.i n] = n := rfl
end Go.Rect

set_option linter.unusedSimpArgs false
set_option linter.unusedVariables false
namespace Go.Rect
open Go.Eng
def rnC (r : Rw) : List D := [.i r.lo, .i r.hi]
def rnD (r : Rw) : D := .agg (rnC r)
def unRn : List D → Rw
  | [.i x, .i y] => ⟨x, y⟩
  | _ => ⟨0, 0⟩
def zN : Rw := ⟨0, 0⟩
theorem unRnE (r : Rw) : unRn [.i r.lo, .i r.hi] = r := rfl
theorem unRnV (x y : Int) : unRn [.i x, .i y] = ⟨x, y⟩ := rfl
theorem rnEta (r : Rw) : (⟨r.lo, r.hi⟩ : Rw) = r := rfl
theorem mapRn (l : List Rw) : (l.map rnC).map unRn = l := by
  induction l with
  | nil => rfl
  | cons a l ih => simp [ih, rnC, unRn]
theorem getDRn (l : List Rw) (k : Nat) : (l.map rnC).getD k [.i 0, .i 0] = rnC (l.getD k zN) := by
  simp only [List.getD_eq_getElem?_getD, List.getElem?_map]
  cases l[k]? <;> rfl
theorem plRn : ∀ (l : List Rw), D.plainLL (l.map rnC) = true
  | [] => rfl
  | a :: l => by simp only [List.map_cons, D.plainLL, plRn l, rnC, D.plainL, D.plain, Bool.and_self]
theorem tkRn (l : List Rw) : (l.map rnC).take l.length = l.map rnC := List.take_of_length_le (by simp)
def tkM (l : List Rc) : List Rc := l.take 256
def els (l : List Rc) : List Rc := (tkM l).filter fun r => !emptyB r
theorem tkM_len (l : List Rc) : (tkM l).length ≤ 256 := by simp [tkM]; omega
theorem els_len (l : List Rc) : (els l).length ≤ 256 := Nat.le_trans (List.length_filter_le _ _) (tkM_len l)
theorem els_pl (l : List Rc) : pl (tkM l) (tkM l).length = els l := by simp [pl, els]
theorem edY_app : ∀ (a b : List Rc), edY (a ++ b) = edY a ++ edY b
  | [], b => rfl
  | r :: a, b => by simp [edY, edY_app a b]
theorem edX_app : ∀ (a b : List Rc), edX (a ++ b) = edX a ++ edX b
  | [], b => rfl
  | r :: a, b => by simp [edX, edX_app a b]
theorem edR_app : ∀ (a b : List Rw), edR (a ++ b) = edR a ++ edR b
  | [], b => rfl
  | r :: a, b => by simp [edR, edR_app a b]
theorem edY_len : ∀ (a : List Rc), (edY a).length = 2 * a.length
  | [] => rfl
  | r :: a => by simp [edY, edY_len a]; omega
theorem edX_len : ∀ (a : List Rc), (edX a).length = 2 * a.length
  | [] => rfl
  | r :: a => by simp [edX, edX_len a]; omega
theorem edR_len : ∀ (a : List Rw), (edR a).length = 2 * a.length
  | [] => rfl
  | r :: a => by simp [edR, edR_len a]; omega
theorem take_s {α : Type} {l : List α} {k : Nat} (d : α) (h : k < l.length) : l.take (k + 1) = l.take k ++ [l.getD k d] := by
  rw [List.take_add_one, List.getElem?_eq_getElem h]
  simp [List.getD_eq_getElem?_getD, List.getElem?_eq_getElem h]
theorem edY_s {l : List Rc} {k : Nat} (h : k < l.length) : edY (l.take (k + 1)) = edY (l.take k) ++ [(l.getD k zR).y, (l.getD k zR).y + (l.getD k zR).h] := by rw [take_s zR h, edY_app]; rfl
theorem edX_s {l : List Rc} {k : Nat} (h : k < l.length) : edX (l.take (k + 1)) = edX (l.take k) ++ [(l.getD k zR).x, (l.getD k zR).x + (l.getD k zR).w] := by rw [take_s zR h, edX_app]; rfl
theorem edR_s {l : List Rw} {k : Nat} (h : k < l.length) : edR (l.take (k + 1)) = edR (l.take k) ++ [(l.getD k zN).lo, (l.getD k zN).hi] := by rw [take_s zN h, edR_app]; rfl
def hgtF (a b : List Rc) : List Int := cmpL (sortL (edY a ++ edY b))
theorem take_all {α : Type} {l : List α} {k : Nat} (h : (l.length : Int) ≤ (k : Int)) : l.take k = l := List.take_of_length_le (by omega)
def Wd (l : List Rc) : Prop := ∀ r ∈ l, emptyB r = false
theorem els_wd (l : List Rc) : Wd (els l) := fun r h => by
  have := (List.mem_filter.1 h).2
  simpa using this
theorem wd_at {l : List Rc} {k : Nat} (h : Wd l) (hk : (k : Int) < (l.length : Int)) : (-1048576 ≤ (l.getD k zR).x ∧ (l.getD k zR).x ≤ 1048576 ∧ 0 < (l.getD k zR).w ∧ (l.getD k zR).w ≤ 1048576 - (l.getD k zR).x) ∧ (-1048576 ≤ (l.getD k zR).y ∧ (l.getD k zR).y ≤ 1048576 ∧ 0 < (l.getD k zR).h ∧ (l.getD k zR).h ≤ 1048576 - (l.getD k zR).y) := by
  refine empty_spec.1 (h _ ?_)
  have hk' : k < l.length := by omega
  have : l.getD k zR = l[k] := by simp [List.getD_eq_getElem?_getD, List.getElem?_eq_getElem hk']
  rw [this]; exact List.getElem_mem hk'
theorem tkMin (l : List Rc) : (List.map rcC l).take (min (l.length : Int) 256).toNat = (tkM l).map rcC := by
  rw [tkM, List.map_take]
  rcases Nat.lt_or_ge l.length 256 with h | h
  · rw [show (min (l.length : Int) 256).toNat = l.length from by omega, List.take_of_length_le (by simp), List.take_of_length_le (by simp; omega)]
  · rw [show (min (l.length : Int) 256).toNat = 256 from by omega]
theorem pl_y {l : List Rc} {k : Nat} (h : (k : Int) < (l.length : Int)) (hc : emptyB (l.getD k zR) = true) : pl l (k + 1) = pl l k := by
  rw [pl_succ (by omega), hc]; rfl
theorem pl_n {l : List Rc} {k : Nat} (h : (k : Int) < (l.length : Int)) (hc : emptyB (l.getD k zR) = false) : pl l (k + 1) = pl l k ++ [l.getD k zR] := by
  rw [pl_succ (by omega), hc]; rfl
theorem pl_end {l : List Rc} {k : Nat} (hk : k ≤ (tkM l).length) (h : ((tkM l).length : Int) ≤ (k : Int)) : pl (tkM l) k = els l := by
  rw [show k = (tkM l).length from by omega, els_pl]
def cmpI (a b : Int) : Int := if a < b then -1 else if b < a then 1 else 0
def orI (l : List Int) : Int := (l.find? fun x => x != 0).getD 0
def cmpRw (p q : Rw) : Int := if cmpI p.lo q.lo = 0 then cmpI p.hi q.hi else cmpI p.lo q.lo
def cmpPt (p q : Pt) : Int := if cmpI p.y q.y = 0 then cmpI p.x q.x else cmpI p.y q.y
theorem kc1 {a b : Int} (h : a < b) : -1 = cmpI a b := by rw [cmpI, if_pos h]
theorem kc2 {a b : Int} (h : ¬ a < b) (h2 : b < a) : 1 = cmpI a b := by rw [cmpI, if_neg h, if_pos h2]
theorem kc3 {a b : Int} (h : ¬ a < b) (h2 : ¬ b < a) : 0 = cmpI a b := by rw [cmpI, if_neg h, if_neg h2]
theorem or_1 {l : List Int} {k : Nat} (hI : ∀ j, j < k → l.getD j 0 = 0) (hk : (k : Int) < (l.length : Int)) (hc : ¬ l.getD k 0 = 0) : l.getD k 0 = orI l := by
  induction l generalizing k with
  | nil => simp at hk; omega
  | cons a l ih =>
    cases k with
    | zero => simp at hc; simp [orI, hc]
    | succ k =>
      have h0 := hI 0 (by omega)
      simp only [List.getD_cons_zero] at h0
      have := ih (k := k) (fun j hj => by simpa using hI (j + 1) (by omega)) (by simp at hk; omega) (by simpa using hc)
      rw [List.getD_cons_succ, this]
      simp [orI, h0]
theorem or_2 {l : List Int} {k : Nat} (hI : ∀ j, j < k → l.getD j 0 = 0) (hk : (l.length : Int) ≤ (k : Int)) : 0 = orI l := by
  have : ∀ x ∈ l, x = 0 := fun x hx => by
    obtain ⟨j, hj, e⟩ := List.getElem_of_mem hx
    have := hI j (by omega)
    rwa [List.getD_eq_getElem?_getD, List.getElem?_eq_getElem hj, Option.getD_some, e] at this
  rw [orI, List.find?_eq_none.2 (fun x hx => by simp [this x hx])]; rfl
theorem or_3 (a b : Int) : orI [a, b] = if a = 0 then b else a := by
  unfold orI
  by_cases h : a = 0
  · subst h
    by_cases h2 : b = 0
    · subst h2; rfl
    · simp [h2]
  · simp [h]
theorem or_rw (p q : Rw) : orI [cmpI p.lo q.lo, cmpI p.hi q.hi] = cmpRw p q := by rw [or_3]; rfl
theorem or_pt (p q : Pt) : orI [cmpI p.y q.y, cmpI p.x q.x] = cmpPt p q := by rw [or_3]; rfl
theorem or_s {l : List Int} {k : Nat} (hI : ∀ j, j < k → l.getD j 0 = 0) (hc : l.getD k 0 = 0) : ∀ j, j < k + 1 → l.getD j 0 = 0 := fun j hj => by
  rcases Nat.lt_succ_iff_lt_or_eq.1 hj with h | h
  · exact hI j h
  · rw [h]; exact hc
def goP (r : Rc) (p : Rw) (y : Int) : Prop := r.y + r.h = y ∧ r.x = p.lo ∧ r.x + r.w = p.hi
instance {r : Rc} {p : Rw} {y : Int} : Decidable (goP r p y) := inferInstanceAs (Decidable (_ ∧ _))
def goB (l : List Rc) (rs : List Rw) (y : Int) : Bool := decide (l.length = rs.length ∧ ∀ j, j < l.length → goP (l.getD j zR) (rs.getD j zN) y)
theorem go_1 {l : List Rc} {rs : List Rw} {y : Int} (h : ¬ (l.length : Int) = (rs.length : Int)) : false = goB l rs y := by
  symm; rw [goB, decide_eq_false_iff_not]; exact fun e => h (by omega)
theorem go_2 {l : List Rc} {rs : List Rw} {y : Int} {k : Nat} (hk : (k : Int) < (l.length : Int)) (h : ¬ goP (l.getD k zR) (rs.getD k zN) y) : false = goB l rs y := by
  symm; rw [goB, decide_eq_false_iff_not]; exact fun e => h (e.2 k (by omega))
theorem go_3 {l : List Rc} {rs : List Rw} {y : Int} {k : Nat} (hl : (l.length : Int) = (rs.length : Int)) (hI : ∀ j, j < k → goP (l.getD j zR) (rs.getD j zN) y) (hk : (l.length : Int) ≤ (k : Int)) : true = goB l rs y := by
  symm; rw [goB, decide_eq_true_eq]; exact ⟨by omega, fun j hj => hI j (by omega)⟩
theorem all_s {p : Nat → Prop} {k : Nat} (hI : ∀ j, j < k → p j) (hc : p k) : ∀ j, j < k + 1 → p j := fun j hj => by
  rcases Nat.lt_succ_iff_lt_or_eq.1 hj with h | h
  · exact hI j h
  · rw [h]; exact hc
theorem rw_ne {p q : Rw} (h : (p.lo == q.lo && p.hi == q.hi) = false) : p ≠ q := fun e => by subst e; simp at h
theorem rw_ext {p q : Rw} (h : p.lo = q.lo ∧ p.hi = q.hi) : p = q := by
  obtain ⟨a, b⟩ := p; obtain ⟨c, d⟩ := q; simp only at h; rw [h.1, h.2]
end Go.Rect

namespace Go.Rect
end Go.Rect

set_option linter.unusedSimpArgs false
set_option linter.unusedVariables false
namespace Go.Rect
open Go.Eng
theorem sortL_len (l : List Int) : (sortL l).length = l.length := by simp [sortL]
structure Gs where
  a : List Int
  b : List Int
  c : List Int
  d : List Int
structure Nm where
  a : Nat
  b : Nat
  c : Nat
  d : Nat
def rkC (v : Vw) (wD : D) (n : Nm) (g : Gs) : List AV := [.dat (.i v.src.w), .dat (.i v.src.h), .dat (.sl 4 (v.src.p.map pxC)), .dat (.i v.o.x), .dat (.i v.o.y), .dat (.i v.bd.x), .dat (.i v.bd.y), .dat (.i v.bd.w), .dat (.i v.bd.h), .dat (.i v.kind), .dat (.sl 1 (v.ps.map iC)), .dat (.i v.rad), .dat wD,
  .vw n.a 0 g.a.length 1, .vw n.b 0 g.b.length 1, .vw n.c 0 g.c.length 1, .vw n.d 0 g.d.length 1]
def rkH (TI TV b : Nat) (v : Vw) (wD : D) (n : Nm) (g : Gs) : Hp := [(b, some (true, .box TV (rkC v wD n g))), (n.a, some (true, .arr TI 1 (g.a.map iC))), (n.b, some (true, .arr TI 1 (g.b.map iC))), (n.c, some (true, .arr TI 1 (g.c.map iC))), (n.d, some (true, .arr TI 1 (g.d.map iC)))]
def zRk (TI TV : Nat) (v : Vw) (wD : D) (g : Gs) (x y : Int) (q : Gs → Prop) (p : Px) : ZC := ⟨[.pt 30000 0, .dat (.i x), .dat (.i y)], rkH TI TV 30000 v wD ⟨30001, 30002, 30003, 30004⟩ g, [30000], [31001, 31002, 31003, 31004], Gs, q, fun _ => .dat (pxD p), fun g' => rkH TI TV 30000 v wD ⟨31001, 31002, 31003, 31004⟩ g'⟩
def rkOf (h : Hp) (nm : Nat) : Option (Vw × D × Nm × Gs) := match geth h nm with
  | some (_, .box _ [.dat (.i w), .dat (.i hh), .dat (.sl _ p), .dat (.i ox), .dat (.i oy), .dat (.i bx), .dat (.i by'), .dat (.i bw), .dat (.i bh), .dat (.i k), .dat (.sl _ ps), .dat (.i r), .dat wD, .vw n1 _ _ _, .vw n2 _ _ _, .vw n3 _ _ _, .vw n4 _ _ _]) =>
    match geth h n1, geth h n2, geth h n3, geth h n4 with
    | some (_, .arr _ _ l1), some (_, .arr _ _ l2), some (_, .arr _ _ l3), some (_, .arr _ _ l4) => some (⟨⟨w, hh, p.map unPx⟩, ⟨ox, oy⟩, ⟨bx, by', bw, bh⟩, k, ps.map unI, r⟩, wD, ⟨n1, n2, n3, n4⟩, ⟨l1.map unI, l2.map unI, l3.map unI, l4.map unI⟩)
    | _, _, _, _ => none
  | _ => none
def nmR (nm : Nat) (n : Nm) : List (Nat × Nat) := [(30000, nm), (30001, n.a), (30002, n.b), (30003, n.c), (30004, n.d)]
def zq (TI TV : Nat) (q : Vw → Gs → Gs → Prop) (F : Vw → Int → Int → Px) (as : List AV) (h : Hp) : Option ZQ := match as with
  | [.pt nm _, .dat (.i x), .dat (.i y)] => match rkOf h nm with
    | some (v, wD, n, g) => some ⟨zRk TI TV v wD g x y (q v g) (F v x y), nmR nm n⟩
    | none => none
  | _ => none
end Go.Rect

set_option linter.unusedSimpArgs false
set_option linter.unusedVariables false
namespace Go.Rect
open Go.Eng
theorem cmp_sn : ∀ {m : List Int} {x y : Int}, m.getLast? = some x → cmpL (m ++ [y]) = if x = y then cmpL m else cmpL m ++ [y]
  | [], x, y, h => by simp at h
  | [a], x, y, h => by
    simp only [List.getLast?_singleton, Option.some.injEq] at h; subst h
    simp only [List.cons_append, List.nil_append, cmpL]
    split
    · rename_i e; rw [e]
    · rfl
  | a :: b :: l, x, y, h => by
    have h' : (b :: l).getLast? = some x := by simpa using h
    have ih := cmp_sn (m := b :: l) (y := y) h'
    simp only [List.cons_append] at ih ⊢
    rw [cmpL, cmpL]
    split
    · exact ih
    · rw [ih]; split <;> rfl
theorem getL_at {l : List Int} {k : Nat} (h : 0 < k) (hk : k ≤ l.length) : (l.take k).getLast? = some (l.getD (k - 1) 0) := by
  rw [List.getLast?_eq_getElem?, List.length_take, Nat.min_eq_left hk, List.getElem?_take, if_pos (by omega)]
  rw [List.getD_eq_getElem?_getD, List.getElem?_eq_getElem (by omega)]; rfl
theorem cmp_s {l : List Int} {p : Nat} (h : 0 < p) (hp : p < l.length) : cmpL (l.take (p + 1)) = if l.getD (p - 1) 0 = l.getD p 0 then cmpL (l.take p) else cmpL (l.take p) ++ [l.getD p 0] := by
  rw [take_s 0 hp, cmp_sn (getL_at h (by omega))]
theorem cmp_len : ∀ (l : List Int), (cmpL l).length ≤ l.length
  | [] => Nat.le_refl _
  | [a] => Nat.le_refl _
  | a :: b :: l => by
    rw [cmpL]; split
    · have := cmp_len (b :: l); simp only [List.length_cons] at *; omega
    · have := cmp_len (b :: l); simp only [List.length_cons] at *; omega
def cmpP (l : List Int) : List Int := cmpL l ++ List.replicate (l.length - (cmpL l).length) 0
theorem cmpP_id {l : List Int} (h : cmpL l = l) : cmpP l = l := by simp [cmpP, h]
def zCmp (TI : Nat) (l : List Int) : ZC := ⟨[.vw 30000 0 l.length 1], [(30000, some (true, .arr TI 1 (l.map iC)))], [30000], [], Unit, fun _ => True, fun _ => .vw 30000 0 (cmpL l).length 1, fun _ => [(30000, some (true, .arr TI 1 ((cmpP l).map iC)))]⟩
structure C0 (l : List Int) (k : Nat) : Prop where
  a : 1 ≤ k
  b : k ≤ l.length
  c : cmpL (l.take k) = l.take k
theorem C0_0 {l : List Int} (h : 2 ≤ (l.length : Int)) : C0 l 1 := ⟨Nat.le_refl _, by omega, by
  cases l with
  | nil => exact absurd h (by simp)
  | cons a l => rfl⟩
theorem C0_s {l : List Int} {k : Nat} (h : C0 l k) (hk : (k : Int) < (l.length : Int)) (hc : ¬ l.getD k 0 = l.getD (k - 1) 0) : C0 l (k + 1) := by
  refine ⟨by omega, by omega, ?_⟩
  rw [cmp_s h.a (by omega), if_neg (fun e => hc e.symm), h.c, take_s 0 (by omega)]
theorem C0_id {l : List Int} {k : Nat} (h : C0 l k) (hk : (l.length : Int) ≤ (k : Int)) : cmpL l = l := by
  have := h.c
  rwa [List.take_of_length_le (by omega)] at this
structure C1 (l : List Int) (p : Nat) (A : List Int) : Prop where
  a : A.length = l.length
  b : (cmpL (l.take p)).length < p
  c : A.take (cmpL (l.take p)).length = cmpL (l.take p)
  d : ∀ j, p - 1 ≤ j → A.getD j 0 = l.getD j 0
  e : p ≤ l.length
theorem C1_0 {l : List Int} {k : Nat} (h : C0 l k) (hk : (k : Int) < (l.length : Int)) (hc : l.getD k 0 = l.getD (k - 1) 0) : C1 l (k + 1) l ∧ (cmpL (l.take (k + 1))).length = k := by
  have h1 := h.a
  have e : cmpL (l.take (k + 1)) = l.take k := by rw [cmp_s h.a (by omega), if_pos hc.symm, h.c]
  have el : (l.take k).length = k := by simp; omega
  refine ⟨⟨rfl, by rw [e, el]; omega, by rw [e, el], fun _ _ => rfl, by omega⟩, by rw [e, el]⟩
theorem C1_y {l A : List Int} {p : Nat} (h : C1 l p A) (h0 : 0 < p) (hp : p < l.length) (hc : A.getD p 0 = A.getD (p - 1) 0) : C1 l (p + 1) A ∧ (cmpL (l.take (p + 1))).length = (cmpL (l.take p)).length := by
  have hb := h.b
  have e : cmpL (l.take (p + 1)) = cmpL (l.take p) := by rw [cmp_s h0 hp, if_pos (by rw [← h.d p (by omega), ← h.d (p - 1) (by omega), hc])]
  exact ⟨⟨h.a, by rw [e]; omega, by rw [e]; exact h.c, fun j hj => h.d j (by omega), by omega⟩, by rw [e]⟩
theorem C1_n {l A : List Int} {p : Nat} (h : C1 l p A) (h0 : 0 < p) (hp : p < l.length) (hc : ¬ A.getD p 0 = A.getD (p - 1) 0) :
    C1 l (p + 1) (A.set (cmpL (l.take p)).length (A.getD p 0)) ∧ (cmpL (l.take (p + 1))).length = (cmpL (l.take p)).length + 1 := by
  have e : cmpL (l.take (p + 1)) = cmpL (l.take p) ++ [l.getD p 0] := by rw [cmp_s h0 hp, if_neg (by rw [← h.d p (by omega), ← h.d (p - 1) (by omega)]; exact fun e => hc e.symm)]
  have hb := h.b
  have ha := h.a
  have el : (cmpL (l.take (p + 1))).length = (cmpL (l.take p)).length + 1 := by rw [e]; simp
  refine ⟨⟨by rw [List.length_set]; exact h.a, by omega, ?_, fun j hj => ?_, by omega⟩, el⟩
  · rw [el, e, take_s 0 (by rw [List.length_set]; omega), List.take_set_of_le (Nat.le_refl _), h.c]
    congr 2
    rw [List.getD_eq_getElem?_getD, List.getElem?_set_self (by omega), Option.getD_some, h.d p (by omega)]
  · have := h.d j (by omega)
    rw [← this, List.getD_eq_getElem?_getD, List.getElem?_set_ne (by omega), List.getD_eq_getElem?_getD]
theorem C1_end {l A : List Int} {p : Nat} (h : C1 l p A) (hp : (l.length : Int) ≤ (p : Int)) : (cmpL (l.take p)) = cmpL l ∧ A.take (cmpL l).length ++ List.replicate (l.length - (cmpL l).length) 0 = cmpP l := by
  have e : l.take p = l := List.take_of_length_le (by omega)
  have := h.c
  rw [e] at this ⊢
  exact ⟨rfl, by rw [cmpP, this]⟩
theorem rs_c {st : List Rw} {x x2 : Int} : rstep st x x2 false = st := by simp [rstep]
theorem last_at {st : List Rw} (h : 0 < st.length) : st.getLast? = some (st.getD (st.length - 1) zN) := by
  rw [List.getLast?_eq_getElem?, List.getD_eq_getElem?_getD, List.getElem?_eq_getElem (by omega)]; rfl
theorem set_last {α : Type} {st : List α} {p : α} (h : 0 < st.length) : st.set (st.length - 1) p = st.dropLast ++ [p] := by
  rcases List.eq_nil_or_concat st with rfl | ⟨l, c, rfl⟩
  · simp at h
  · rw [List.concat_eq_append] at *
    simp
theorem rs_a {st : List Rw} {x x2 : Int} (h : 0 < st.length) (hc : (st.getD (st.length - 1) zN).hi = x) : rstep st x x2 true = st.set (st.length - 1) ⟨(st.getD (st.length - 1) zN).lo, x2⟩ := by
  rw [set_last h, rstep, if_neg (by simp), last_at h]
  simp only
  rw [if_pos hc]
theorem rs_b {st : List Rw} {x x2 : Int} (hc : ¬ (0 < st.length ∧ (st.getD (st.length - 1) zN).hi = x)) : rstep st x x2 true = st ++ [⟨x, x2⟩] := by
  rw [rstep, if_neg (by simp)]
  by_cases h : 0 < st.length
  · rw [last_at h]
    simp only
    rw [if_neg (fun e => hc ⟨h, e⟩)]
  · have : st = [] := List.eq_nil_of_length_eq_zero (by omega)
    subst this; rfl
theorem ms_a {st : List Rw} {p : Rw} (h : 0 < st.length) (hc : p.lo ≤ (st.getD (st.length - 1) zN).hi) : mstep st p = st.set (st.length - 1) ⟨(st.getD (st.length - 1) zN).lo, max (st.getD (st.length - 1) zN).hi p.hi⟩ := by
  rw [set_last h, mstep, last_at h]
  simp only
  rw [if_pos hc]
theorem ms_b {st : List Rw} {p : Rw} (hc : ¬ (0 < st.length ∧ p.lo ≤ (st.getD (st.length - 1) zN).hi)) : mstep st p = st ++ [p] := by
  rw [mstep]
  by_cases h : 0 < st.length
  · rw [last_at h]
    simp only
    rw [if_neg (fun e => hc ⟨h, e⟩)]
  · have : st = [] := List.eq_nil_of_length_eq_zero (by omega)
    subst this; rfl
theorem merge_app : ∀ {l m st : List Rw}, mergeL st (l ++ m) = mergeL (mergeL st l) m
  | [], m, st => rfl
  | p :: l, m, st => by simp only [List.cons_append, mergeL]; exact merge_app
theorem merge_s {l : List Rw} {k : Nat} (h : k < l.length) : mergeL [] (l.take (k + 1)) = mstep (mergeL [] (l.take k)) (l.getD k zN) := by
  rw [take_s zN h, merge_app]; rfl
theorem mstep_len (st : List Rw) (p : Rw) : (mstep st p).length ≤ st.length + 1 := by
  by_cases h : 0 < st.length ∧ p.lo ≤ (st.getD (st.length - 1) zN).hi
  · rw [ms_a h.1 h.2]; simp
  · rw [ms_b h]; simp
theorem merge_len : ∀ (l st : List Rw), (mergeL st l).length ≤ st.length + l.length
  | [], st => Nat.le_refl _
  | p :: l, st => by
    have := merge_len l (mstep st p)
    have := mstep_len st p
    simp only [mergeL, List.length_cons]; omega
theorem rstep_len (st : List Rw) (x x2 : Int) (g : Bool) : (rstep st x x2 g).length ≤ st.length + 1 := by
  cases g
  · rw [rs_c]; omega
  · by_cases h : 0 < st.length ∧ (st.getD (st.length - 1) zN).hi = x
    · rw [rs_a h.1 h.2]; simp
    · rw [rs_b h]; simp
theorem rowP_app : ∀ (a b : List Rc) (y : Int), rowP (a ++ b) y = rowP a y ++ rowP b y
  | [], b, y => rfl
  | r :: a, b, y => by simp only [List.cons_append, rowP]; split <;> simp [rowP_app a b y]
theorem rowP_s1 {l : List Rc} {k : Nat} {y : Int} (h : (k : Int) < (l.length : Int)) (hc : (l.getD k zR).y ≤ y ∧ y < (l.getD k zR).y + (l.getD k zR).h) :
    rowP (l.take (k + 1)) y = rowP (l.take k) y ++ [⟨(l.getD k zR).x, (l.getD k zR).x + (l.getD k zR).w⟩] := by
  rw [take_s zR (by omega), rowP_app, rowP, if_pos hc]; rfl
theorem rowP_s2 {l : List Rc} {k : Nat} {y : Int} (h : (k : Int) < (l.length : Int)) (hc : ¬ ((l.getD k zR).y ≤ y ∧ y < (l.getD k zR).y + (l.getD k zR).h)) :
    rowP (l.take (k + 1)) y = rowP (l.take k) y := by
  rw [take_s zR (by omega), rowP_app, rowP, if_neg hc]; simp [rowP]
theorem rowP_len : ∀ (l : List Rc) (y : Int), (rowP l y).length ≤ l.length
  | [], y => Nat.le_refl _
  | r :: l, y => by have := rowP_len l y; rw [rowP]; split <;> simp only [List.length_cons] <;> omega
def srtRw (l : List Rw) : List Rw := l.mergeSort leR
theorem srtRw_len (l : List Rw) : (srtRw l).length = l.length := by simp [srtRw]
theorem rowF_len (l : List Rc) (y : Int) : (rowF l y).length ≤ l.length := by
  have h1 := merge_len ((rowP l y).mergeSort leR) []
  have h2 := rowP_len l y
  simp only [List.length_mergeSort, List.length_nil] at h1
  rw [rowF]; omega
def rnK (g : Int → Bool) (xs : List Int) : Nat → List Rw
  | 0 => []
  | k + 1 => rstep (rnK g xs k) (xs.getD k 0) (xs.getD (k + 1) 0) (g (xs.getD k 0))
theorem runC_K (g : Int → Bool) : ∀ (xs : List Int) (st : List Rw) (k : Nat) (zs : List Int), zs.drop k = xs → st = rnK g zs k → runC g st xs = rnK g zs (zs.length - 1) ∨ (xs = [] ∧ runC g st xs = st)
  | [], st, k, zs, _, _ => .inr ⟨rfl, rfl⟩
  | [x], st, k, zs, h, hs => .inl (by
      have : zs.length = k + 1 := by have := congrArg List.length h; simp at this; omega
      rw [this]; simp [runC, hs])
  | x :: x2 :: l, st, k, zs, h, hs => by
    have hx : zs.getD k 0 = x := by
      have := congrArg (·[0]?) h
      simp only [List.getElem?_drop, Nat.add_zero, List.getElem?_cons_zero] at this
      rw [List.getD_eq_getElem?_getD, this]; rfl
    have hx2 : zs.getD (k + 1) 0 = x2 := by
      have := congrArg (·[1]?) h
      simp only [List.getElem?_drop, List.getElem?_cons_succ, List.getElem?_cons_zero] at this
      rw [List.getD_eq_getElem?_getD, this]; rfl
    rw [runC]
    refine runC_K g (x2 :: l) _ (k + 1) zs ?_ ?_ |>.elim .inl fun h => absurd h.1 (by simp)
    · rw [← List.drop_drop, h]; rfl
    · rw [rnK, hx, hx2, hs]
theorem rnK_all (g : Int → Bool) (xs : List Int) : rnK g xs (xs.length - 1) = runC g [] xs := by
  rcases runC_K g xs [] 0 xs rfl rfl with h | ⟨rfl, h⟩
  · exact h.symm
  · rfl
theorem rnK_len (g : Int → Bool) (xs : List Int) : ∀ k, (rnK g xs k).length ≤ k
  | 0 => Nat.le_refl _
  | k + 1 => by have := rnK_len g xs k; have := rstep_len (rnK g xs k) (xs.getD k 0) (xs.getD (k + 1) 0) (g (xs.getD k 0)); rw [rnK]; omega
def colX (a b : List Rw) : List Int := cmpL (sortL (edR a ++ edR b))
def combF (keep : Bool → Bool → Bool) (a b : List Rw) : List Rw := runC (fun x => keep (atR a x) (atR b x)) [] (colX a b)
theorem colX_len (a b : List Rw) : (colX a b).length ≤ 2 * a.length + 2 * b.length := by
  have := cmp_len (sortL (edR a ++ edR b))
  rw [sortL_len, List.length_append, edR_len, edR_len] at this
  exact this
def twP (a : List Rw) (xs : List Int) : Nat → Nat
  | 0 => 0
  | k + 1 => twL a (xs.getD k 0)
theorem tw_ge' {a : List Rw} {x : Int} {i : Nat} (hi : i ≤ twL a x) (hl : (i : Int) < (a.length : Int)) (hc : (a.getD i zN).hi ≤ x) : i + 1 ≤ twL a x := by
  rcases Nat.lt_or_eq_of_le hi with h | h
  · exact h
  · subst h
    have := tw_ge (a := a) (x := x) (d := zN) (by omega)
    omega
theorem tw_eq {a : List Rw} {x : Int} {i : Nat} (hi : i ≤ twL a x) (hc : ¬ ((i : Int) < (a.length : Int) ∧ (a.getD i zN).hi ≤ x)) : i = twL a x := by
  rcases Nat.lt_or_eq_of_le hi with h | h
  · have h1 := tw_le a x
    exact absurd ⟨by omega, tw_lt (d := zN) h⟩ hc
  · exact h
theorem tw_atI (a : List Rw) (x : Int) : (decide ((twL a x : Int) < (a.length : Int)) && decide ((a.getD (twL a x) zN).lo ≤ x)) = atR a x := by
  rw [← tw_at a x zN]
  congr 1
  rw [decide_eq_decide]; omega
theorem toNs (n : Nat) : ((n : Int) - 1).toNat = n - 1 := by omega
def srtPt (l : List Pt) : List Pt := l.mergeSort fun p q => decide (p.y < q.y) || (decide (p.y = q.y) && decide (p.x ≤ q.x))
theorem cmp_fin {l : List Int} (h : cmpL l = l) : l.map iC = (cmpP l).map iC ∧ l.length = (cmpL l).length := by rw [cmpP_id h, h]; exact ⟨rfl, rfl⟩
theorem cmp_small {l : List Int} (h : (l.length : Int) < 2) : cmpL l = l := by
  match l, h with
  | [], _ => rfl
  | [a], _ => rfl
  | a :: b :: l, h => simp at h; omega
theorem cmp_out {l A : List Int} {p : Nat} (h : C1 l p A) (hp : (l.length : Int) ≤ (p : Int)) : List.take (cmpL l).length (A.map iC) ++ (List.replicate (l.length - (cmpL l).length) (0 : Int)).map iC ++ List.drop ((cmpL l).length + (l.length - (cmpL l).length)) (A.map iC) = (cmpP l).map iC := by
  have h1 := cmp_len l
  have h2 := h.a
  rw [List.drop_of_length_le (by simp; omega), List.append_nil, ← List.map_take, ← List.map_append, (C1_end h hp).2]
section
variable {l A : List Int} {k q : Nat}
theorem C1_n' (h : C1 l (k + q) A) (h0 : 1 ≤ q) (hp : (q : Int) < ((l.length - k : Nat) : Int)) (hl : l.length ≤ maxLen) (hc : ¬ A.getD (k + q) 0 = A.getD (k + (q - 1)) 0) :
    C1 l (k + (q + 1)) (A.set (cmpL (l.take (k + q))).length (A.getD (k + q) 0)) ∧ IntKind.i64.wrap (((cmpL (l.take (k + q))).length : Int) + 1) = ((cmpL (l.take (k + (q + 1)))).length : Int) ∧ IntKind.i64.wrap ((q : Int) + 1) = ((q + 1 : Nat) : Int) := by
  obtain ⟨h1, h2⟩ := C1_n h (by omega) (by omega) (by rw [show k + q - 1 = k + (q - 1) from by omega]; exact hc)
  have h3 := h.b
  unfold maxLen at hl
  refine ⟨h1, ?_, w64 (by omega) (by omega)⟩
  rw [w64 (by omega) (by omega), show k + (q + 1) = k + q + 1 from rfl, h2]; push_cast; rfl
theorem C1_y' (h : C1 l (k + q) A) (h0 : 1 ≤ q) (hp : (q : Int) < ((l.length - k : Nat) : Int)) (hl : l.length ≤ maxLen) (hc : A.getD (k + q) 0 = A.getD (k + (q - 1)) 0) :
    C1 l (k + (q + 1)) A ∧ ((cmpL (l.take (k + q))).length : Int) = ((cmpL (l.take (k + (q + 1)))).length : Int) ∧ IntKind.i64.wrap ((q : Int) + 1) = ((q + 1 : Nat) : Int) := by
  obtain ⟨h1, h2⟩ := C1_y h (by omega) (by omega) (by rw [show k + q - 1 = k + (q - 1) from by omega]; exact hc)
  unfold maxLen at hl
  exact ⟨h1, by rw [show k + (q + 1) = k + q + 1 from rfl, h2], w64 (by omega) (by omega)⟩
end
def edY2 (a b : List Rc) (m : Nat) : List Int := edY a ++ edY (b.take m)
def edR2 (a b : List Rw) (m : Nat) : List Int := edR a ++ edR (b.take m)
theorem edY2_0 {a b : List Rc} {k : Nat} (h : (a.length : Int) ≤ (k : Int)) : edY (a.take k) = edY2 a b 0 := by rw [take_all h]; simp [edY2, edY]
theorem edR2_0 {a b : List Rw} {k : Nat} (h : (a.length : Int) ≤ (k : Int)) : edR (a.take k) = edR2 a b 0 := by rw [take_all h]; simp [edR2, edR]
theorem edY2_s {a b : List Rc} {m : Nat} (h : (m : Int) < (b.length : Int)) : edY2 a b (m + 1) = edY2 a b m ++ [(b.getD m zR).y, (b.getD m zR).y + (b.getD m zR).h] := by rw [edY2, edY_s (by omega), ← List.append_assoc]; rfl
theorem edR2_s {a b : List Rw} {m : Nat} (h : (m : Int) < (b.length : Int)) : edR2 a b (m + 1) = edR2 a b m ++ [(b.getD m zN).lo, (b.getD m zN).hi] := by rw [edR2, edR_s (by omega), ← List.append_assoc]; rfl
theorem edY2_len (a b : List Rc) (m : Nat) : (edY2 a b m).length ≤ 2 * a.length + 2 * b.length := by rw [edY2, List.length_append, edY_len, edY_len, List.length_take]; omega
theorem edR2_len (a b : List Rw) (m : Nat) : (edR2 a b m).length ≤ 2 * a.length + 2 * b.length := by rw [edR2, List.length_append, edR_len, edR_len, List.length_take]; omega
theorem edY2_all {a b : List Rc} {m : Nat} (h : (b.length : Int) ≤ (m : Int)) : cmpL (sortL (edY2 a b m)) = hgtF a b := by rw [edY2, take_all h]; rfl
theorem edR2_all {a b : List Rw} {m : Nat} (h : (b.length : Int) ≤ (m : Int)) : cmpL (sortL (edR2 a b m)) = colX a b := by rw [edR2, take_all h]; rfl
theorem mg_len (a : List Rc) (y : Int) (m : Nat) : (mergeL [] ((srtRw (rowP a y)).take m)).length ≤ a.length := by
  have hl := merge_len ((srtRw (rowP a y)).take m) []
  have hl2 := rowP_len a y
  have hl3 := srtRw_len (rowP a y)
  have hl4 := List.length_take (i := m) (l := srtRw (rowP a y))
  simp only [List.length_nil] at hl
  omega
theorem cmpP_take (l : List Int) : ((cmpP l).map iC).take (cmpL l).length = (cmpL l).map iC := by
  rw [cmpP, List.map_append, List.take_append_of_le_length (by simp), List.take_of_length_le (by simp)]
section
variable {S : List Rw} {m : Nat}
theorem mgA (h : m < S.length) (hc : 0 < ((mergeL [] (S.take m)).length : Int) ∧ (S.getD m zN).lo ≤ ((mergeL [] (S.take m)).getD ((mergeL [] (S.take m)).length - 1) zN).hi) :
    ((mergeL [] (S.take m)).map rnC).set ((mergeL [] (S.take m)).length - 1) [.i ((mergeL [] (S.take m)).getD ((mergeL [] (S.take m)).length - 1) zN).lo, .i (max ((mergeL [] (S.take m)).getD ((mergeL [] (S.take m)).length - 1) zN).hi (S.getD m zN).hi)] = (mergeL [] (S.take (m + 1))).map rnC ∧
    (mergeL [] (S.take m)).length = (mergeL [] (S.take (m + 1))).length := by
  rw [merge_s h, ms_a (by omega) hc.2, List.map_set, List.length_set]
  exact ⟨rfl, rfl⟩
theorem mgB (h : m < S.length) (hc : (decide (0 < ((mergeL [] (S.take m)).length : Int)) && decide ((S.getD m zN).lo ≤ ((mergeL [] (S.take m)).getD ((mergeL [] (S.take m)).length - 1) zN).hi)) = false) :
    (mergeL [] (S.take m)).map rnC ++ [[.i (S.getD m zN).lo, .i (S.getD m zN).hi]] = (mergeL [] (S.take (m + 1))).map rnC ∧
    (mergeL [] (S.take m)).length + 1 = (mergeL [] (S.take (m + 1))).length := by
  rw [merge_s h, ms_b (by simp only [Bool.and_eq_false_iff, decide_eq_false_iff_not] at hc; omega), List.map_append, List.length_append]
  exact ⟨rfl, rfl⟩
end
theorem mg_all {a : List Rc} {y : Int} {m : Nat} (hc : ((rowP a y).length : Int) ≤ (m : Int)) : mergeL [] ((srtRw (rowP a y)).take m) = rowF a y := by
  rw [List.take_of_length_le (by rw [srtRw_len]; omega)]; rfl
theorem ascW_sort : ∀ {l : List Int}, l.Pairwise (fun x y => decide (x ≤ y) = true) → AscW l
  | [], _ => trivial
  | a :: l, h => by
    rw [List.pairwise_cons] at h
    exact ⟨fun b hb => by simpa using h.1 b hb, ascW_sort h.2⟩
theorem sortL_asc (l : List Int) : AscW (sortL l) := ascW_sort (List.pairwise_mergeSort (fun a b c h1 h2 => by simp only [decide_eq_true_eq] at *; omega) (fun a b => by simp only [Bool.or_eq_true, decide_eq_true_eq]; omega) l)
theorem asc_cmp (l : List Int) : Asc (cmpL (sortL l)) := cmp_asc (sortL_asc l)
theorem mem_cmp (l : List Int) (x : Int) : x ∈ cmpL (sortL l) ↔ x ∈ l := by rw [cmp_mem, sortL, List.mem_mergeSort]
theorem asc_at : ∀ {l : List Int} {k : Nat}, Asc l → k + 1 < l.length → l.getD k 0 < l.getD (k + 1) 0
  | [], k, _, h => by simp at h
  | [a], k, _, h => by simp at h
  | a :: b :: l, 0, h, _ => h.1 b (by simp)
  | a :: b :: l, k + 1, h, hk => by
    have := asc_at (l := b :: l) (k := k) h.2 (by simp only [List.length_cons] at *; omega)
    simpa using this
theorem twP_le {a : List Rw} {xs : List Int} {k : Nat} (h : Asc xs) (hk : (k : Int) + 1 < (xs.length : Int)) : twP a xs k ≤ twL a (xs.getD k 0) := by
  cases k with
  | zero => exact Nat.zero_le _
  | succ k => exact tw_mono (Int.le_of_lt (asc_at h (by omega)))
theorem colX_asc (a b : List Rw) : Asc (colX a b) := asc_cmp _
theorem tw_eq2 {a : List Rw} {x : Int} {i : Nat} (hi : i ≤ twL a x) (hc : (decide ((i : Int) < (a.length : Int)) && decide ((a.getD i zN).hi ≤ x)) = false) : i = twL a x :=
  tw_eq hi fun h => by
    rw [decide_eq_true h.1, decide_eq_true h.2] at hc; cases hc
section
variable {g : Int → Bool} {xs : List Int} {k : Nat}
theorem gkC (hg : g (xs.getD k 0) = false) : (rnK g xs k).map rnC = (rnK g xs (k + 1)).map rnC ∧ (rnK g xs k).length = (rnK g xs (k + 1)).length := by
  rw [rnK, hg, rs_c]; exact ⟨rfl, rfl⟩
theorem gkA (hg : g (xs.getD k 0) = true) (hc : 0 < ((rnK g xs k).length : Int) ∧ ((rnK g xs k).getD ((rnK g xs k).length - 1) zN).hi = xs.getD k 0) :
    ((rnK g xs k).map rnC).set ((rnK g xs k).length - 1) [.i ((rnK g xs k).getD ((rnK g xs k).length - 1) zN).lo, .i (xs.getD (k + 1) 0)] = (rnK g xs (k + 1)).map rnC ∧ (rnK g xs k).length = (rnK g xs (k + 1)).length := by
  rw [rnK, hg, rs_a (by omega) hc.2, List.map_set, List.length_set]; exact ⟨rfl, rfl⟩
theorem gkB (hg : g (xs.getD k 0) = true) (hc : (decide (0 < ((rnK g xs k).length : Int)) && (((rnK g xs k).getD ((rnK g xs k).length - 1) zN).hi == xs.getD k 0)) = false) :
    (rnK g xs k).map rnC ++ [[.i (xs.getD k 0), .i (xs.getD (k + 1) 0)]] = (rnK g xs (k + 1)).map rnC ∧ (rnK g xs k).length + 1 = (rnK g xs (k + 1)).length := by
  rw [rnK, hg, rs_b (by simp only [Bool.and_eq_false_iff, decide_eq_false_iff_not, beq_eq_false_iff_ne] at hc; omega), List.map_append, List.length_append]; exact ⟨rfl, rfl⟩
theorem gk_all (hI : k ≤ xs.length - 1) (hc : (xs.length : Int) ≤ (k : Int) + 1) : rnK g xs k = runC g [] xs := by
  rw [← rnK_all, show k = xs.length - 1 from by omega]
end
end Go.Rect

