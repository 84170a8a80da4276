import Derived.Test.YtfpimhkkknfmcaaEngV
namespace Go.Rect
open Go.Eng

structure Rc where
  x : Int
  y : Int
  w : Int
  h : Int
  deriving DecidableEq, Inhabited
structure Pt where
  x : Int
  y : Int
  deriving DecidableEq, Inhabited

theorem Rc.eta (r : Rc) : (⟨r.x, r.y, r.w, r.h⟩ : Rc) = r := rfl
theorem Pt.eta (p : Pt) : (⟨p.x, p.y⟩ : Pt) = p := rfl

def rcC (r : Rc) : List D := [.i r.x, .i r.y, .i r.w, .i r.h]
def ptC (p : Pt) : List D := [.i p.x, .i p.y]
def rcD (r : Rc) : D := .agg (rcC r)
def ptD (p : Pt) : D := .agg (ptC p)
def unRc : List D → Rc
  | [.i x, .i y, .i w, .i h] => ⟨x, y, w, h⟩
  | _ => ⟨0, 0, 0, 0⟩
def unPt : List D → Pt
  | [.i x, .i y] => ⟨x, y⟩
  | _ => ⟨0, 0⟩
theorem unRc_rcC (r : Rc) : unRc (rcC r) = r := rfl
theorem unPt_ptC (p : Pt) : unPt (ptC p) = p := rfl

def MX : Int := 1048576
def spanB (x w : Int) : Bool := decide (-1048576 ≤ x) && decide (x ≤ 1048576) && decide (0 ≤ w) && decide (w ≤ 1048576 - x)
def validB (r : Rc) : Bool := spanB r.x r.w && spanB r.y r.h
def emptyB (r : Rc) : Bool := !validB r || r.w == 0 || r.h == 0
def hasB (r : Rc) (p : Pt) : Bool := validB r && decide (r.x ≤ p.x) && decide (p.x < r.x + r.w) && decide (r.y ≤ p.y) && decide (p.y < r.y + r.h)
def withinB (a b : Rc) : Bool := emptyB a || (!emptyB b && decide (b.x ≤ a.x) && decide (a.x + a.w ≤ b.x + b.w) && decide (b.y ≤ a.y) && decide (a.y + a.h ≤ b.y + b.h))
def areaI (r : Rc) : Int := if emptyB r then 0 else r.w * r.h
def zR : Rc := ⟨0, 0, 0, 0⟩
def betweenR (x0 y0 x1 y1 : Int) : Rc :=
  if min x1 1048576 ≤ max x0 (-1048576) ∨ min y1 1048576 ≤ max y0 (-1048576) then zR
  else ⟨max x0 (-1048576), max y0 (-1048576), min x1 1048576 - max x0 (-1048576), min y1 1048576 - max y0 (-1048576)⟩
def meetR (a b : Rc) : Rc := if emptyB a || emptyB b then zR else betweenR (max a.x b.x) (max a.y b.y) (min (a.x + a.w) (b.x + b.w)) (min (a.y + a.h) (b.y + b.h))
def joinR (a b : Rc) : Rc :=
  if emptyB a && emptyB b then zR else if emptyB a then b else if emptyB b then a
  else betweenR (min a.x b.x) (min a.y b.y) (max (a.x + a.w) (b.x + b.w)) (max (a.y + a.h) (b.y + b.h))
def lim4 (n : Int) : Int := min (max n (-4194304)) 4194304
def moveR (r : Rc) (d : Pt) : Rc := if emptyB r then zR else betweenR (r.x + lim4 d.x) (r.y + lim4 d.y) (r.x + lim4 d.x + r.w) (r.y + lim4 d.y + r.h)
def growR (r : Rc) (n : Int) : Rc := if emptyB r then zR else betweenR (r.x - lim4 n) (r.y - lim4 n) (r.x + r.w + lim4 n) (r.y + r.h + lim4 n)
def ofTileR (t : Pt) : Rc := if t.x < -65536 ∨ 65536 ≤ t.x ∨ t.y < -65536 ∨ 65536 ≤ t.y then zR else ⟨t.x * 16, t.y * 16, 16, 16⟩
def tileI (x : Int) : Int := (x + 1048576) / 16 - 65536
/-- The parts of a that lie outside of m, m in a. -/
def part0 (a m : Rc) : Rc := ⟨a.x, a.y, a.w, m.y - a.y⟩
def part1 (a m : Rc) : Rc := ⟨a.x, m.y, m.x - a.x, m.h⟩
def part2 (a m : Rc) : Rc := ⟨m.x + m.w, m.y, a.x + a.w - m.x - m.w, m.h⟩
def part3 (a m : Rc) : Rc := ⟨a.x, m.y + m.h, a.w, a.y + a.h - m.y - m.h⟩
def minusL (a b : Rc) : List Rc :=
  if emptyB a then [] else if emptyB (meetR a b) then [a]
  else [part0 a (meetR a b), part1 a (meetR a b), part2 a (meetR a b), part3 a (meetR a b)].filter fun p => !emptyB p

def sameL {α : Type} [DecidableEq α] (a b : List α) : Bool := decide (a = b)
def spanS (r : Rc) (n : Int) : Int := if emptyB r then 0 else if n = 0 then r.x else r.y
def spanE (r : Rc) (n : Int) : Int := if emptyB r then -1 else if n = 0 then r.x + r.w - 1 else r.y + r.h - 1
def ofR (x0 x1 y0 y1 : Int) : Rc := if x1 < x0 ∨ y1 < y0 then zR else ⟨x0, y0, x1 - x0 + 1, y1 - y0 + 1⟩
def worldR (x0 x1 y0 y1 : Int) : Rc := ofR (max x0 (-1048576)) (min x1 1048575) (max y0 (-1048576)) (min y1 1048575)
def lim3 (n : Int) : Int := min (max n (-3145728)) 3145728
def rowL (y x0 : Int) (n : Nat) : List Pt := (List.range n).map fun (i : Nat) => ⟨x0 + i, y⟩
def gridL (x0 y0 : Int) (n : Nat) : Nat → List Pt
  | 0 => []
  | m + 1 => gridL x0 y0 n m ++ rowL (y0 + m) x0 n
def tilesL (r : Rc) : List Pt :=
  if emptyB r then [] else
  if (tileI (r.x + r.w - 1) - tileI r.x + 1) * (tileI (r.y + r.h - 1) - tileI r.y + 1) > 4096 then [] else
  gridL (tileI r.x) (tileI r.y) (tileI (r.x + r.w - 1) - tileI r.x + 1).toNat (tileI (r.y + r.h - 1) - tileI r.y + 1).toNat

theorem eqI (a : Int) : (a = a) = True := eq_self a
theorem eqN (a : Nat) : (a = a) = True := eq_self a
theorem eqB (a : Bool) : (a = a) = True := eq_self a
theorem eqD (a : D) : (a = a) = True := eq_self a
theorem eqL1 (a : List D) : (a = a) = True := eq_self a
theorem eqL2 (a : List (List D)) : (a = a) = True := eq_self a
theorem unRcE (r : Rc) : unRc [.i r.x, .i r.y, .i r.w, .i r.h] = r := rfl
theorem unPtE (r : Pt) : unPt [.i r.x, .i r.y] = r := rfl
theorem mapRc (l : List Rc) : (l.map rcC).map unRc = l := by
  induction l with
  | nil => rfl
  | cons a l ih => simp [ih, unRc_rcC]
theorem mapPt (l : List Pt) : (l.map ptC).map unPt = l := by
  induction l with
  | nil => rfl
  | cons a l ih => simp [ih, unPt_ptC]
theorem getDRc (l : List Rc) (k : Nat) : (l.map rcC).getD k [.i 0, .i 0, .i 0, .i 0] = rcC (l.getD k zR) := by
  simp only [List.getD_eq_getElem?_getD, List.getElem?_map]
  cases l[k]? <;> rfl
theorem getDPt (l : List Pt) (k : Nat) : (l.map ptC).getD k [.i 0, .i 0] = ptC (l.getD k ⟨0, 0⟩) := by
  simp only [List.getD_eq_getElem?_getD, List.getElem?_map]
  cases l[k]? <;> rfl
theorem w64 {n : Int} (h1 : -9223372036854775808 ≤ n) (h2 : n ≤ 9223372036854775807) : IntKind.i64.wrap n = n := by
  rw [IntKind.wrap_i64]; omega

theorem w64n {k n : Nat} (h : (k : Int) < (n : Int)) (hn : n ≤ maxLen) : IntKind.i64.wrap ((k : Int) + 1) = ((k + 1 : Nat) : Int) := by
  unfold maxLen at hn
  rw [w64 (by omega) (by omega)]; omega
/-- The parts, one by one. -/
def partsL (a m : Rc) : List Rc := [part0 a m, part1 a m, part2 a m, part3 a m]
def pl (l : List Rc) (k : Nat) : List Rc := (l.take k).filter fun p => !emptyB p
theorem pl_succ {l : List Rc} {k : Nat} (h : k < l.length) : pl l (k + 1) = bif emptyB (l.getD k zR) then pl l k else pl l k ++ [l.getD k zR] := by
  have e : l.getD k zR = l[k] := by simp [List.getD_eq_getElem?_getD, List.getElem?_eq_getElem h]
  rw [e, pl, List.take_add_one, List.filter_append, List.getElem?_eq_getElem h]
  cases hh : emptyB l[k] <;> simp [pl, hh]
theorem plRc : ∀ (l : List Rc), D.plainLL (l.map rcC) = true
  | [] => rfl
  | a :: l => by simp only [List.map_cons, D.plainLL, plRc l, rcC, D.plainL, D.plain, Bool.and_self]
theorem plPt : ∀ (l : List Pt), D.plainLL (l.map ptC) = true
  | [] => rfl
  | a :: l => by simp only [List.map_cons, D.plainLL, plPt l, ptC, D.plainL, D.plain, Bool.and_self]
theorem tkR (l : List Rc) : (l.map rcC).take l.length = l.map rcC := List.take_of_length_le (by simp)
theorem tkP (l : List Pt) : (l.map ptC).take l.length = l.map ptC := List.take_of_length_le (by simp)
theorem nthE (a b c d e f g h i j k l m n o p : Int) (q : Nat) : [[D.i a, .i b, .i c, .i d], [.i e, .i f, .i g, .i h], [.i i, .i j, .i k, .i l], [.i m, .i n, .i o, .i p]].getD q [.i 0, .i 0, .i 0, .i 0] = rcC (([⟨a, b, c, d⟩, ⟨e, f, g, h⟩, ⟨i, j, k, l⟩, ⟨m, n, o, p⟩] : List Rc).getD q zR) := by
  match q with
  | 0 | 1 | 2 | 3 => rfl
  | q + 4 => rfl
theorem nth0 (a b c d e f g h i j k l m n o p : Int) (q : Nat) : [D.i a, .i b, .i c, .i d, .i e, .i f, .i g, .i h, .i i, .i j, .i k, .i l, .i m, .i n, .i o, .i p].getD (q * 4) (.i 0) = .i (([⟨a, b, c, d⟩, ⟨e, f, g, h⟩, ⟨i, j, k, l⟩, ⟨m, n, o, p⟩] : List Rc).getD q zR).x := by
  match q with
  | 0 | 1 | 2 | 3 => rfl
  | q + 4 => simp [List.getD_eq_getElem?_getD, Nat.add_mul, zR]
theorem nth1 (a b c d e f g h i j k l m n o p : Int) (q : Nat) : [D.i a, .i b, .i c, .i d, .i e, .i f, .i g, .i h, .i i, .i j, .i k, .i l, .i m, .i n, .i o, .i p].getD (q * 4 + 1) (.i 0) = .i (([⟨a, b, c, d⟩, ⟨e, f, g, h⟩, ⟨i, j, k, l⟩, ⟨m, n, o, p⟩] : List Rc).getD q zR).y := by
  match q with
  | 0 | 1 | 2 | 3 => rfl
  | q + 4 => simp [List.getD_eq_getElem?_getD, Nat.add_mul, zR]
theorem nth2 (a b c d e f g h i j k l m n o p : Int) (q : Nat) : [D.i a, .i b, .i c, .i d, .i e, .i f, .i g, .i h, .i i, .i j, .i k, .i l, .i m, .i n, .i o, .i p].getD (q * 4 + 1 + 1) (.i 0) = .i (([⟨a, b, c, d⟩, ⟨e, f, g, h⟩, ⟨i, j, k, l⟩, ⟨m, n, o, p⟩] : List Rc).getD q zR).w := by
  match q with
  | 0 | 1 | 2 | 3 => rfl
  | q + 4 => simp [List.getD_eq_getElem?_getD, Nat.add_mul, zR]
theorem nth3 (a b c d e f g h i j k l m n o p : Int) (q : Nat) : [D.i a, .i b, .i c, .i d, .i e, .i f, .i g, .i h, .i i, .i j, .i k, .i l, .i m, .i n, .i o, .i p].getD (q * 4 + 1 + 1 + 1) (.i 0) = .i (([⟨a, b, c, d⟩, ⟨e, f, g, h⟩, ⟨i, j, k, l⟩, ⟨m, n, o, p⟩] : List Rc).getD q zR).h := by
  match q with
  | 0 | 1 | 2 | 3 => rfl
  | q + 4 => simp [List.getD_eq_getElem?_getD, Nat.add_mul, zR]

end Go.Rect
