import Derived.Test.YtdillkdhpalgcaaED
set_option linter.unusedSimpArgs false
set_option linter.unusedVariables false
namespace Go.Rect
open Go.Eng

structure Rc where
  x : Int
  y : Int
  w : Int
  h : Int
  deriving DecidableEq, Inhabited
structure Pt where
  x : Int
  y : Int
  deriving DecidableEq, Inhabited

theorem Rc.eta (r : Rc) : (⟨r.x, r.y, r.w, r.h⟩ : Rc) = r := rfl
theorem Pt.eta (p : Pt) : (⟨p.x, p.y⟩ : Pt) = p := rfl

def rcC (r : Rc) : List D := [.i r.x, .i r.y, .i r.w, .i r.h]
def ptC (p : Pt) : List D := [.i p.x, .i p.y]
def rcD (r : Rc) : D := .agg (rcC r)
def ptD (p : Pt) : D := .agg (ptC p)
def unRc : List D → Rc
  | [.i x, .i y, .i w, .i h] => ⟨x, y, w, h⟩
  | _ => ⟨0, 0, 0, 0⟩
def unPt : List D → Pt
  | [.i x, .i y] => ⟨x, y⟩
  | _ => ⟨0, 0⟩
theorem unRc_rcC (r : Rc) : unRc (rcC r) = r := rfl
theorem unPt_ptC (p : Pt) : unPt (ptC p) = p := rfl

def MX : Int := 1048576
def spanB (x w : Int) : Bool := decide (-1048576 ≤ x) && decide (x ≤ 1048576) && decide (0 ≤ w) && decide (w ≤ 1048576 - x)
def validB (r : Rc) : Bool := spanB r.x r.w && spanB r.y r.h
def emptyB (r : Rc) : Bool := !validB r || r.w == 0 || r.h == 0
def hasB (r : Rc) (p : Pt) : Bool := validB r && decide (r.x ≤ p.x) && decide (p.x < r.x + r.w) && decide (r.y ≤ p.y) && decide (p.y < r.y + r.h)
def withinB (a b : Rc) : Bool := emptyB a || (!emptyB b && decide (b.x ≤ a.x) && decide (a.x + a.w ≤ b.x + b.w) && decide (b.y ≤ a.y) && decide (a.y + a.h ≤ b.y + b.h))
def areaI (r : Rc) : Int := if emptyB r then 0 else r.w * r.h
def zR : Rc := ⟨0, 0, 0, 0⟩
def betweenR (x0 y0 x1 y1 : Int) : Rc :=
  if min x1 1048576 ≤ max x0 (-1048576) ∨ min y1 1048576 ≤ max y0 (-1048576) then zR
  else ⟨max x0 (-1048576), max y0 (-1048576), min x1 1048576 - max x0 (-1048576), min y1 1048576 - max y0 (-1048576)⟩
def meetR (a b : Rc) : Rc := if emptyB a || emptyB b then zR else betweenR (max a.x b.x) (max a.y b.y) (min (a.x + a.w) (b.x + b.w)) (min (a.y + a.h) (b.y + b.h))
def joinR (a b : Rc) : Rc :=
  if emptyB a && emptyB b then zR else if emptyB a then b else if emptyB b then a
  else betweenR (min a.x b.x) (min a.y b.y) (max (a.x + a.w) (b.x + b.w)) (max (a.y + a.h) (b.y + b.h))
def lim4 (n : Int) : Int := min (max n (-4194304)) 4194304
def moveR (r : Rc) (d : Pt) : Rc := if emptyB r then zR else betweenR (r.x + lim4 d.x) (r.y + lim4 d.y) (r.x + lim4 d.x + r.w) (r.y + lim4 d.y + r.h)
def growR (r : Rc) (n : Int) : Rc := if emptyB r then zR else betweenR (r.x - lim4 n) (r.y - lim4 n) (r.x + r.w + lim4 n) (r.y + r.h + lim4 n)
def ofTileR (t : Pt) : Rc := if t.x < -65536 ∨ 65536 ≤ t.x ∨ t.y < -65536 ∨ 65536 ≤ t.y then zR else ⟨t.x * 16, t.y * 16, 16, 16⟩
def tileI (x : Int) : Int := (x + 1048576) / 16 - 65536
/-- The parts of a that lie outside of m, m in a. -/
def part0 (a m : Rc) : Rc := ⟨a.x, a.y, a.w, m.y - a.y⟩
def part1 (a m : Rc) : Rc := ⟨a.x, m.y, m.x - a.x, m.h⟩
def part2 (a m : Rc) : Rc := ⟨m.x + m.w, m.y, a.x + a.w - m.x - m.w, m.h⟩
def part3 (a m : Rc) : Rc := ⟨a.x, m.y + m.h, a.w, a.y + a.h - m.y - m.h⟩
def minusL (a b : Rc) : List Rc :=
  if emptyB a then [] else if emptyB (meetR a b) then [a]
  else [part0 a (meetR a b), part1 a (meetR a b), part2 a (meetR a b), part3 a (meetR a b)].filter fun p => !emptyB p

def sameL {α : Type} [DecidableEq α] (a b : List α) : Bool := decide (a = b)
def spanS (r : Rc) (n : Int) : Int := if emptyB r then 0 else if n = 0 then r.x else r.y
def spanE (r : Rc) (n : Int) : Int := if emptyB r then -1 else if n = 0 then r.x + r.w - 1 else r.y + r.h - 1
def ofR (x0 x1 y0 y1 : Int) : Rc := if x1 < x0 ∨ y1 < y0 then zR else ⟨x0, y0, x1 - x0 + 1, y1 - y0 + 1⟩
def worldR (x0 x1 y0 y1 : Int) : Rc := ofR (max x0 (-1048576)) (min x1 1048575) (max y0 (-1048576)) (min y1 1048575)
def lim3 (n : Int) : Int := min (max n (-3145728)) 3145728
def rowL (y x0 : Int) (n : Nat) : List Pt := (List.range n).map fun (i : Nat) => ⟨x0 + i, y⟩
def gridL (x0 y0 : Int) (n : Nat) : Nat → List Pt
  | 0 => []
  | m + 1 => gridL x0 y0 n m ++ rowL (y0 + m) x0 n
def tilesL (r : Rc) : List Pt :=
  if emptyB r then [] else
  if (tileI (r.x + r.w - 1) - tileI r.x + 1) * (tileI (r.y + r.h - 1) - tileI r.y + 1) > 4096 then [] else
  gridL (tileI r.x) (tileI r.y) (tileI (r.x + r.w - 1) - tileI r.x + 1).toNat (tileI (r.y + r.h - 1) - tileI r.y + 1).toNat

theorem eqI (a : Int) : (a = a) = True := eq_self a
theorem eqN (a : Nat) : (a = a) = True := eq_self a
theorem eqB (a : Bool) : (a = a) = True := eq_self a
theorem eqD (a : D) : (a = a) = True := eq_self a
theorem eqL1 (a : List D) : (a = a) = True := eq_self a
theorem eqL2 (a : List (List D)) : (a = a) = True := eq_self a
theorem unRcE (r : Rc) : unRc [.i r.x, .i r.y, .i r.w, .i r.h] = r := rfl
theorem unPtE (r : Pt) : unPt [.i r.x, .i r.y] = r := rfl
theorem mapRc (l : List Rc) : (l.map rcC).map unRc = l := by
  induction l with
  | nil => rfl
  | cons a l ih => simp [ih, unRc_rcC]
theorem mapPt (l : List Pt) : (l.map ptC).map unPt = l := by
  induction l with
  | nil => rfl
  | cons a l ih => simp [ih, unPt_ptC]
theorem getDRc (l : List Rc) (k : Nat) : (l.map rcC).getD k [.i 0, .i 0, .i 0, .i 0] = rcC (l.getD k zR) := by
  simp only [List.getD_eq_getElem?_getD, List.getElem?_map]
  cases l[k]? <;> rfl
theorem getDPt (l : List Pt) (k : Nat) : (l.map ptC).getD k [.i 0, .i 0] = ptC (l.getD k ⟨0, 0⟩) := by
  simp only [List.getD_eq_getElem?_getD, List.getElem?_map]
  cases l[k]? <;> rfl
theorem w64 {n : Int} (h1 : -9223372036854775808 ≤ n) (h2 : n ≤ 9223372036854775807) : IntKind.i64.wrap n = n := by
  rw [IntKind.wrap_i64]; omega

theorem w64n {k n : Nat} (h : (k : Int) < (n : Int)) (hn : n ≤ maxLen) : IntKind.i64.wrap ((k : Int) + 1) = ((k + 1 : Nat) : Int) := by
  unfold maxLen at hn
  rw [w64 (by omega) (by omega)]; omega
theorem w64l {k n : Nat} (h : (k : Int) < (n : Int)) (hn : n ≤ 281474976710656) : IntKind.i64.wrap ((k : Int) + 1) = ((k + 1 : Nat) : Int) := by
  rw [w64 (by omega) (by omega)]; omega
/-- The parts, one by one. -/
def partsL (a m : Rc) : List Rc := [part0 a m, part1 a m, part2 a m, part3 a m]
def pl (l : List Rc) (k : Nat) : List Rc := (l.take k).filter fun p => !emptyB p
theorem pl_succ {l : List Rc} {k : Nat} (h : k < l.length) : pl l (k + 1) = bif emptyB (l.getD k zR) then pl l k else pl l k ++ [l.getD k zR] := by
  have e : l.getD k zR = l[k] := by simp [List.getD_eq_getElem?_getD, List.getElem?_eq_getElem h]
  rw [e, pl, List.take_add_one, List.filter_append, List.getElem?_eq_getElem h]
  cases hh : emptyB l[k] <;> simp [pl, hh]
theorem plRc : ∀ (l : List Rc), D.plainLL (l.map rcC) = true
  | [] => rfl
  | a :: l => by simp only [List.map_cons, D.plainLL, plRc l, rcC, D.plainL, D.plain, Bool.and_self]
theorem plPt : ∀ (l : List Pt), D.plainLL (l.map ptC) = true
  | [] => rfl
  | a :: l => by simp only [List.map_cons, D.plainLL, plPt l, ptC, D.plainL, D.plain, Bool.and_self]
theorem tkR (l : List Rc) : (l.map rcC).take l.length = l.map rcC := List.take_of_length_le (by simp)
theorem tkP (l : List Pt) : (l.map ptC).take l.length = l.map ptC := List.take_of_length_le (by simp)
theorem nthE (a b c d e f g h i j k l m n o p : Int) (q : Nat) : [[D.i a, .i b, .i c, .i d], [.i e, .i f, .i g, .i h], [.i i, .i j, .i k, .i l], [.i m, .i n, .i o, .i p]].getD q [.i 0, .i 0, .i 0, .i 0] = rcC (([⟨a, b, c, d⟩, ⟨e, f, g, h⟩, ⟨i, j, k, l⟩, ⟨m, n, o, p⟩] : List Rc).getD q zR) := by
  match q with
  | 0 | 1 | 2 | 3 => rfl
  | q + 4 => rfl
theorem nth0 (a b c d e f g h i j k l m n o p : Int) (q : Nat) : [D.i a, .i b, .i c, .i d, .i e, .i f, .i g, .i h, .i i, .i j, .i k, .i l, .i m, .i n, .i o, .i p].getD (q * 4) (.i 0) = .i (([⟨a, b, c, d⟩, ⟨e, f, g, h⟩, ⟨i, j, k, l⟩, ⟨m, n, o, p⟩] : List Rc).getD q zR).x := by
  match q with
  | 0 | 1 | 2 | 3 => rfl
  | q + 4 => simp [List.getD_eq_getElem?_getD, Nat.add_mul, zR]
theorem nth1 (a b c d e f g h i j k l m n o p : Int) (q : Nat) : [D.i a, .i b, .i c, .i d, .i e, .i f, .i g, .i h, .i i, .i j, .i k, .i l, .i m, .i n, .i o, .i p].getD (q * 4 + 1) (.i 0) = .i (([⟨a, b, c, d⟩, ⟨e, f, g, h⟩, ⟨i, j, k, l⟩, ⟨m, n, o, p⟩] : List Rc).getD q zR).y := by
  match q with
  | 0 | 1 | 2 | 3 => rfl
  | q + 4 => simp [List.getD_eq_getElem?_getD, Nat.add_mul, zR]
theorem nth2 (a b c d e f g h i j k l m n o p : Int) (q : Nat) : [D.i a, .i b, .i c, .i d, .i e, .i f, .i g, .i h, .i i, .i j, .i k, .i l, .i m, .i n, .i o, .i p].getD (q * 4 + 1 + 1) (.i 0) = .i (([⟨a, b, c, d⟩, ⟨e, f, g, h⟩, ⟨i, j, k, l⟩, ⟨m, n, o, p⟩] : List Rc).getD q zR).w := by
  match q with
  | 0 | 1 | 2 | 3 => rfl
  | q + 4 => simp [List.getD_eq_getElem?_getD, Nat.add_mul, zR]
theorem nth3 (a b c d e f g h i j k l m n o p : Int) (q : Nat) : [D.i a, .i b, .i c, .i d, .i e, .i f, .i g, .i h, .i i, .i j, .i k, .i l, .i m, .i n, .i o, .i p].getD (q * 4 + 1 + 1 + 1) (.i 0) = .i (([⟨a, b, c, d⟩, ⟨e, f, g, h⟩, ⟨i, j, k, l⟩, ⟨m, n, o, p⟩] : List Rc).getD q zR).h := by
  match q with
  | 0 | 1 | 2 | 3 => rfl
  | q + 4 => simp [List.getD_eq_getElem?_getD, Nat.add_mul, zR]

end Go.Rect

set_option linter.unusedVariables false
set_option linter.unusedSectionVars false
namespace Go.Rect
open Go.Eng
theorem span_spec {x w : Int} : spanB x w = true ↔ -1048576 ≤ x ∧ x ≤ 1048576 ∧ 0 ≤ w ∧ w ≤ 1048576 - x := by
  simp only [spanB, Bool.and_eq_true, decide_eq_true_eq, and_assoc]
theorem valid_spec {r : Rc} : validB r = true ↔ (-1048576 ≤ r.x ∧ r.x ≤ 1048576 ∧ 0 ≤ r.w ∧ r.w ≤ 1048576 - r.x) ∧ (-1048576 ≤ r.y ∧ r.y ≤ 1048576 ∧ 0 ≤ r.h ∧ r.h ≤ 1048576 - r.y) := by
  simp only [validB, Bool.and_eq_true, span_spec]
theorem empty_spec {r : Rc} : emptyB r = false ↔ (-1048576 ≤ r.x ∧ r.x ≤ 1048576 ∧ 0 < r.w ∧ r.w ≤ 1048576 - r.x) ∧ (-1048576 ≤ r.y ∧ r.y ≤ 1048576 ∧ 0 < r.h ∧ r.h ≤ 1048576 - r.y) := by
  simp only [emptyB, Bool.or_eq_false_iff, Bool.not_eq_false', valid_spec, beq_eq_false_iff_ne, ne_eq]; omega
theorem empty_true {r : Rc} : emptyB r = true ↔ ¬ ((-1048576 ≤ r.x ∧ r.x ≤ 1048576 ∧ 0 < r.w ∧ r.w ≤ 1048576 - r.x) ∧ (-1048576 ≤ r.y ∧ r.y ≤ 1048576 ∧ 0 < r.h ∧ r.h ≤ 1048576 - r.y)) := by
  rw [← empty_spec]; simp
theorem fin_rv1 {r : Rc} (hc : ((r.x < -1048576 ∨ 1048576 < r.x) ∨ r.y < -1048576) ∨ 1048576 < r.y) : false = validB r := by
  symm; rw [Bool.eq_false_iff]; intro h; have := valid_spec.1 h; omega
theorem fin_rv2 {r : Rc} (hc : ((-1048576 ≤ r.x ∧ r.x ≤ 1048576) ∧ -1048576 ≤ r.y) ∧ r.y ≤ 1048576) : (decide (0 ≤ r.w) && decide (0 ≤ r.h) && decide (r.w ≤ IntKind.i64.wrap (1048576 - r.x)) && decide (r.h ≤ IntKind.i64.wrap (1048576 - r.y))) = validB r := by
  simp (disch := omega) only [w64]; rw [Bool.eq_iff_iff, valid_spec]; simp only [Bool.and_eq_true, decide_eq_true_eq]; omega
theorem fin_has {r : Rc} {p : Pt} : (validB r && decide (r.x ≤ p.x) && decide (p.x < IntKind.i64.wrap (r.x + r.w)) && decide (r.y ≤ p.y) && decide (p.y < IntKind.i64.wrap (r.y + r.h))) = hasB r p := by
  cases hv : validB r
  · simp [hasB, hv]
  · have := valid_spec.1 hv; simp (disch := omega) only [w64]; simp only [hasB, hv]
theorem ne_of {r : Rc} (h : (validB r = true ∧ ¬r.w = 0) ∧ ¬r.h = 0) : emptyB r = false := by
  have := valid_spec.1 h.1.1; rw [empty_spec]; omega
theorem fin_sp1 {r : Rc} {n : Int} (hc : (validB r = false ∨ r.w = 0) ∨ r.h = 0) : 0 = spanS r n ∧ -1 = spanE r n := by
  have : emptyB r = true := by simp only [emptyB, Bool.or_eq_true, beq_iff_eq, Bool.not_eq_true']; exact hc
  simp [spanS, spanE, this]
theorem fin_sp2 {r : Rc} {n : Int} (h : (validB r = true ∧ ¬r.w = 0) ∧ ¬r.h = 0) (hc : n = 0) : r.x = spanS r n ∧ IntKind.i64.wrap (IntKind.i64.wrap (r.x + r.w) - 1) = spanE r n := by
  have h1 := ne_of h; have h2 := empty_spec.1 h1; subst hc; simp (disch := omega) only [w64]; simp [spanS, spanE, h1]
theorem fin_sp3 {r : Rc} {n : Int} (h : (validB r = true ∧ ¬r.w = 0) ∧ ¬r.h = 0) (hc : ¬ n = 0) : r.y = spanS r n ∧ IntKind.i64.wrap (IntKind.i64.wrap (r.y + r.h) - 1) = spanE r n := by
  have h1 := ne_of h; have h2 := empty_spec.1 h1; simp (disch := omega) only [w64]; simp [spanS, spanE, h1, hc]
theorem fin_rhas {r : Rc} {p : Pt} : (decide (spanS r 0 ≤ p.x) && decide (p.x ≤ spanE r 0) && decide (spanS r 1 ≤ p.y) && decide (p.y ≤ spanE r 1)) = hasB r p := by
  rw [Bool.eq_iff_iff]; simp only [hasB, Bool.and_eq_true, decide_eq_true_eq, valid_spec]
  cases h : emptyB r
  · have := empty_spec.1 h; simp only [spanS, spanE, h]; simp; omega
  · have := empty_true.1 h; simp only [spanS, spanE, h]; simp; omega
theorem fin_a1 {r : Rc} (hc : emptyB r = true) : 0 = areaI r := by simp [areaI, hc]
theorem area_bd {r : Rc} (hc : emptyB r = false) : 0 < r.w * r.h ∧ r.w * r.h ≤ 4398046511104 := by
  have h := empty_spec.1 hc
  refine ⟨Int.mul_pos h.1.2.2.1 h.2.2.2.1, ?_⟩
  have h1 : r.w * r.h ≤ 2097152 * r.h := Int.mul_le_mul_of_nonneg_right (by omega) (by omega)
  omega
theorem fin_a2 {r : Rc} (hc : emptyB r = false) : IntKind.i64.wrap (r.w * r.h) = areaI r := by
  have := area_bd hc; rw [w64 (by omega) (by omega)]; simp [areaI, hc]
theorem fin_w1 {a b : Rc} (hc : emptyB a = true) : true = withinB a b := by simp [withinB, hc]
theorem fin_w2 {a b : Rc} (h : emptyB a = false) (hc : emptyB b = true) : false = withinB a b := by simp [withinB, h, hc]
theorem fin_w3 {a b : Rc} (h : emptyB a = false) (hc : emptyB b = false) : (decide (b.x ≤ a.x) && decide (IntKind.i64.wrap (a.x + a.w) ≤ IntKind.i64.wrap (b.x + b.w)) && decide (b.y ≤ a.y) && decide (IntKind.i64.wrap (a.y + a.h) ≤ IntKind.i64.wrap (b.y + b.h))) = withinB a b := by
  have := empty_spec.1 h; have := empty_spec.1 hc; simp (disch := omega) only [w64]; simp [withinB, h, hc]
theorem fin_rw {a b : Rc} (h : emptyB a = false) : (hasB b ⟨spanS a 0, spanS a 1⟩ && hasB b ⟨spanE a 0, spanE a 1⟩) = withinB a b := by
  have h1 := empty_spec.1 h
  simp only [spanS, spanE, h]
  rw [Bool.eq_iff_iff]
  cases hb : emptyB b
  · have h2 := empty_spec.1 hb
    simp only [withinB, h, hb, hasB, Bool.and_eq_true, decide_eq_true_eq, valid_spec, Bool.false_or, Bool.not_false, Bool.true_and]; simp; omega
  · have h2 := empty_true.1 hb
    simp only [withinB, h, hb, hasB, Bool.and_eq_true, decide_eq_true_eq, valid_spec, Bool.false_or, Bool.not_true, Bool.false_and]; simp; omega
theorem fe {r r' : Rc} (h : r = r') : r.x = r'.x ∧ r.y = r'.y ∧ r.w = r'.w ∧ r.h = r'.h := by subst h; exact ⟨rfl, rfl, rfl, rfl⟩
theorem Rc.ext' {r r' : Rc} (h : r.x = r'.x ∧ r.y = r'.y ∧ r.w = r'.w ∧ r.h = r'.h) : r = r' := by
  cases r; cases r'; simpa using h
theorem fin_b1 {x0 y0 x1 y1 : Int} (hc : min x1 1048576 ≤ max x0 (-1048576) ∨ min y1 1048576 ≤ max y0 (-1048576)) : zR = betweenR x0 y0 x1 y1 := by rw [betweenR, if_pos hc]
theorem fin_b2 {x0 y0 x1 y1 : Int} (hc : max x0 (-1048576) < min x1 1048576 ∧ max y0 (-1048576) < min y1 1048576) :
    (⟨max x0 (-1048576), max y0 (-1048576), IntKind.i64.wrap (min x1 1048576 - max x0 (-1048576)), IntKind.i64.wrap (min y1 1048576 - max y0 (-1048576))⟩ : Rc) = betweenR x0 y0 x1 y1 := by
  rw [betweenR, if_neg (by omega), w64 (by omega) (by omega), w64 (by omega) (by omega)]
theorem fin_o1 {x0 x1 y0 y1 : Int} (hc : x1 < x0 ∨ y1 < y0) : zR = ofR x0 x1 y0 y1 := by rw [ofR, if_pos hc]
theorem fin_o2 {x0 x1 y0 y1 : Int} (h1 : -4611686018427387904 ≤ x0) (h2 : x1 ≤ 4611686018427387900) (h3 : -4611686018427387904 ≤ y0) (h4 : y1 ≤ 4611686018427387900) (hc : x0 ≤ x1 ∧ y0 ≤ y1) :
    (⟨x0, y0, IntKind.i64.wrap (IntKind.i64.wrap (x1 - x0) + 1), IntKind.i64.wrap (IntKind.i64.wrap (y1 - y0) + 1)⟩ : Rc) = ofR x0 x1 y0 y1 := by
  rw [ofR, if_neg (by omega), w64 (n := x1 - x0) (by omega) (by omega), w64 (n := y1 - y0) (by omega) (by omega), w64 (by omega) (by omega), w64 (by omega) (by omega)]
theorem sp_bd (r : Rc) (n : Int) : -1048576 ≤ spanS r n ∧ spanS r n ≤ 1048576 ∧ -1048577 ≤ spanE r n ∧ spanE r n ≤ 1048576 := by
  unfold spanS spanE
  cases h : emptyB r
  · have := empty_spec.1 h; simp only [Bool.false_eq_true, if_false]; split <;> omega
  · simp
theorem sp_ne {r : Rc} (h : emptyB r = false) : spanS r 0 = r.x ∧ spanE r 0 = r.x + r.w - 1 ∧ spanS r 1 = r.y ∧ spanE r 1 = r.y + r.h - 1 := by simp [spanS, spanE, h]
theorem fin_t {n : Int} (h1 : -1048576 ≤ n) (h2 : n ≤ 4194304) : IntKind.i64.wrap (IntKind.i64.wrap ((IntKind.i64.wrap (n + 1048576)).tdiv 16) - 65536) = tileI n := by
  rw [w64 (n := n + 1048576) (by omega) (by omega), Int.tdiv_eq_ediv_of_nonneg (by omega), w64 (n := (n + 1048576) / 16) (by omega) (by omega), w64 (by omega) (by omega), tileI]
theorem fin_m1 {a b : Rc} (hc : emptyB a = true ∨ emptyB b = true) : zR = meetR a b := by rw [meetR, if_pos (by simpa using hc)]
theorem fin_m2 {a b : Rc} (hc : emptyB a = false ∧ emptyB b = false) : betweenR (max a.x b.x) (max a.y b.y) (min (IntKind.i64.wrap (a.x + a.w)) (IntKind.i64.wrap (b.x + b.w))) (min (IntKind.i64.wrap (a.y + a.h)) (IntKind.i64.wrap (b.y + b.h))) = meetR a b := by
  have := empty_spec.1 hc.1; have := empty_spec.1 hc.2
  simp (disch := omega) only [w64]; rw [meetR, if_neg (by simp [hc])]
theorem fin_m3 {a b : Rc} (hc : emptyB a = false ∧ emptyB b = false) : ofR (max (spanS a 0) (spanS b 0)) (min (spanE a 0) (spanE b 0)) (max (spanS a 1) (spanS b 1)) (min (spanE a 1) (spanE b 1)) = meetR a b := by
  have h1 := empty_spec.1 hc.1; have h2 := empty_spec.1 hc.2
  obtain ⟨e1, e2, e3, e4⟩ := sp_ne hc.1; obtain ⟨f1, f2, f3, f4⟩ := sp_ne hc.2
  rw [meetR, if_neg (by simp [hc]), e1, e2, e3, e4, f1, f2, f3, f4, ofR, betweenR]
  split
  · rw [if_pos (by omega)]
  · rw [if_neg (by omega)]; apply Rc.ext'; simp only; omega
theorem fin_j1 {a b : Rc} (hc : emptyB a = true ∧ emptyB b = true) : zR = joinR a b := by rw [joinR, if_pos (by simpa using hc)]
theorem fin_j2 {a b : Rc} (h : (emptyB a && emptyB b) = false) (hc : emptyB a = true) : b = joinR a b := by
  have : emptyB b = false := by simp_all
  simp [joinR, hc, this]
theorem fin_j3 {a b : Rc} (h : emptyB a = false) (hc : emptyB b = true) : a = joinR a b := by simp [joinR, hc, h]
theorem fin_j4 {a b : Rc} (ha : emptyB a = false) (hb : emptyB b = false) : betweenR (min a.x b.x) (min a.y b.y) (max (IntKind.i64.wrap (a.x + a.w)) (IntKind.i64.wrap (b.x + b.w))) (max (IntKind.i64.wrap (a.y + a.h)) (IntKind.i64.wrap (b.y + b.h))) = joinR a b := by
  have := empty_spec.1 ha; have := empty_spec.1 hb
  simp (disch := omega) only [w64]; simp [joinR, ha, hb]
theorem ax_join {x w x' w' : Int} (h1 : -1048576 ≤ x) (h2 : 0 < w) (h3 : w ≤ 1048576 - x) (k1 : -1048576 ≤ x') (k2 : 0 < w') (k3 : w' ≤ 1048576 - x') :
    (¬ max (x + w - 1) (x' + w' - 1) < min x x' ∧ ¬ min (max (x + w) (x' + w')) 1048576 ≤ max (min x x') (-1048576)) ∧ min x x' = max (min x x') (-1048576) ∧
      max (x + w - 1) (x' + w' - 1) - min x x' + 1 = min (max (x + w) (x' + w')) 1048576 - max (min x x') (-1048576) := by
  refine ⟨⟨?_, ?_⟩, ?_, ?_⟩ <;> omega
theorem fin_j5 {a b : Rc} (ha : emptyB a = false) (hb : emptyB b = false) : ofR (min (spanS a 0) (spanS b 0)) (max (spanE a 0) (spanE b 0)) (min (spanS a 1) (spanS b 1)) (max (spanE a 1) (spanE b 1)) = joinR a b := by
  have h1 := empty_spec.1 ha; have h2 := empty_spec.1 hb
  obtain ⟨e1, e2, e3, e4⟩ := sp_ne ha; obtain ⟨f1, f2, f3, f4⟩ := sp_ne hb
  simp only [joinR, ha, hb, Bool.and_self, Bool.false_eq_true, if_false]
  rw [e1, e2, e3, e4, f1, f2, f3, f4, ofR, betweenR]
  obtain ⟨p1, p2, p3⟩ := ax_join (x := a.x) (w := a.w) (x' := b.x) (w' := b.w) (by omega) (by omega) (by omega) (by omega) (by omega) (by omega)
  obtain ⟨q1, q2, q3⟩ := ax_join (x := a.y) (w := a.h) (x' := b.y) (w' := b.h) (by omega) (by omega) (by omega) (by omega) (by omega) (by omega)
  rw [if_neg (by omega), if_neg (by omega)]
  apply Rc.ext'; simp only; exact ⟨p2, q2, p3, q3⟩
theorem lim4_bd (n : Int) : -4194304 ≤ lim4 n ∧ lim4 n ≤ 4194304 := by unfold lim4; omega
theorem lim34 (n : Int) : lim3 n = lim4 n ∨ (3145728 ≤ lim3 n ∧ 3145728 ≤ lim4 n) ∨ (lim3 n ≤ -3145728 ∧ lim4 n ≤ -3145728) := by unfold lim3 lim4; omega
theorem lim3_bd (n : Int) : -3145728 ≤ lim3 n ∧ lim3 n ≤ 3145728 := by unfold lim3; omega
theorem fin_z {r : Rc} {p : Pt} (hc : emptyB r = true) : zR = moveR r p := by simp [moveR, hc]
theorem fin_zg {r : Rc} {n : Int} (hc : emptyB r = true) : zR = growR r n := by simp [growR, hc]
theorem fin_mv {r : Rc} {p : Pt} (hc : emptyB r = false) : betweenR (IntKind.i64.wrap (r.x + lim4 p.x)) (IntKind.i64.wrap (r.y + lim4 p.y)) (IntKind.i64.wrap (IntKind.i64.wrap (r.x + lim4 p.x) + r.w)) (IntKind.i64.wrap (IntKind.i64.wrap (r.y + lim4 p.y) + r.h)) = moveR r p := by
  have := empty_spec.1 hc; have := lim4_bd p.x; have := lim4_bd p.y
  simp (disch := omega) only [w64]; simp [moveR, hc]
theorem ax_in {x w l l' : Int} (h1 : -1048576 ≤ x) (h2 : 0 < w) (h3 : w ≤ 1048576 - x) (hl : l = l' ∨ (3145728 ≤ l ∧ 3145728 ≤ l') ∨ (l ≤ -3145728 ∧ l' ≤ -3145728)) (k k' : Int) (hk : k = k' ∨ (3145728 ≤ k ∧ 3145728 ≤ k') ∨ (k ≤ -3145728 ∧ k' ≤ -3145728)) (hs : l = k ∨ l = -k) (hs' : l' = k' ∨ l' = -k') (hm : l = k ↔ l' = k') :
    (min (x + w - 1 + k) 1048575 < max (x + l) (-1048576) ↔ min (x + w + k') 1048576 ≤ max (x + l') (-1048576)) ∧
    (¬ min (x + w - 1 + k) 1048575 < max (x + l) (-1048576) → max (x + l) (-1048576) = max (x + l') (-1048576) ∧ min (x + w - 1 + k) 1048575 - max (x + l) (-1048576) + 1 = min (x + w + k') 1048576 - max (x + l') (-1048576)) := by
  have key : (l = l' ∧ k = k') ∨ (l = l' → k = k' → False) := by
    by_cases h : l = l' ∧ k = k'
    · exact .inl h
    · exact .inr fun a b => h ⟨a, b⟩
  rcases key with ⟨rfl, rfl⟩ | hne
  · clear hl hk hs hs' hm; constructor
    · constructor <;> (intro h; omega)
    · intro h; omega
  · rcases hl with rfl | ⟨a1, a2⟩ | ⟨a1, a2⟩ <;> rcases hk with rfl | ⟨b1, b2⟩ | ⟨b1, b2⟩
    all_goals (constructor <;> first | (constructor <;> (intro h; omega)) | (intro h; omega))
theorem fin_rmv {r : Rc} {p : Pt} (hc : emptyB r = false) : worldR (IntKind.i64.wrap (spanS r 0 + lim3 p.x)) (IntKind.i64.wrap (spanE r 0 + lim3 p.x)) (IntKind.i64.wrap (spanS r 1 + lim3 p.y)) (IntKind.i64.wrap (spanE r 1 + lim3 p.y)) = moveR r p := by
  have h1 := empty_spec.1 hc
  obtain ⟨e1, e2, e3, e4⟩ := sp_ne hc
  have b1 := lim3_bd p.x; have b2 := lim3_bd p.y
  rw [e1, e2, e3, e4]; simp (disch := omega) only [w64]
  obtain ⟨u1, u2⟩ := ax_in (x := r.x) (w := r.w) (l := lim3 p.x) (l' := lim4 p.x) (by omega) (by omega) (by omega) (lim34 _) (lim3 p.x) (lim4 p.x) (lim34 _) (.inl rfl) (.inl rfl) (by simp)
  obtain ⟨v1, v2⟩ := ax_in (x := r.y) (w := r.h) (l := lim3 p.y) (l' := lim4 p.y) (by omega) (by omega) (by omega) (lim34 _) (lim3 p.y) (lim4 p.y) (lim34 _) (.inl rfl) (.inl rfl) (by simp)
  simp only [moveR, hc, Bool.false_eq_true, if_false, worldR, ofR, betweenR]
  rw [show r.x + lim4 p.x + r.w = r.x + r.w + lim4 p.x by omega, show r.y + lim4 p.y + r.h = r.y + r.h + lim4 p.y by omega]
  split
  · rename_i hh; rw [if_pos (hh.imp u1.1 v1.1)]
  · rename_i hh
    have n1 := u2 fun h => hh (.inl h)
    have n2 := v2 fun h => hh (.inr h)
    rw [if_neg (fun h => hh (h.imp u1.2 v1.2))]; apply Rc.ext'; simp only; exact ⟨n1.1, n2.1, n1.2, n2.2⟩
theorem fin_gr {r : Rc} {n : Int} (hc : emptyB r = false) : betweenR (IntKind.i64.wrap (r.x - lim4 n)) (IntKind.i64.wrap (r.y - lim4 n)) (IntKind.i64.wrap (IntKind.i64.wrap (r.x + r.w) + lim4 n)) (IntKind.i64.wrap (IntKind.i64.wrap (r.y + r.h) + lim4 n)) = growR r n := by
  have := empty_spec.1 hc; have := lim4_bd n
  simp (disch := omega) only [w64]; simp [growR, hc]
theorem fin_rgr {r : Rc} {n : Int} (hc : emptyB r = false) : worldR (IntKind.i64.wrap (spanS r 0 - lim3 n)) (IntKind.i64.wrap (spanE r 0 + lim3 n)) (IntKind.i64.wrap (spanS r 1 - lim3 n)) (IntKind.i64.wrap (spanE r 1 + lim3 n)) = growR r n := by
  have h1 := empty_spec.1 hc
  obtain ⟨e1, e2, e3, e4⟩ := sp_ne hc
  have b1 := lim3_bd n
  rw [e1, e2, e3, e4]; simp (disch := omega) only [w64]
  have hl := lim34 n
  have hl' : -lim3 n = -lim4 n ∨ (3145728 ≤ -lim3 n ∧ 3145728 ≤ -lim4 n) ∨ (-lim3 n ≤ -3145728 ∧ -lim4 n ≤ -3145728) := by omega
  obtain ⟨u1, u2⟩ := ax_in (x := r.x) (w := r.w) (l := -lim3 n) (l' := -lim4 n) (by omega) (by omega) (by omega) hl' (lim3 n) (lim4 n) hl (.inr rfl) (.inr rfl) (by omega)
  obtain ⟨v1, v2⟩ := ax_in (x := r.y) (w := r.h) (l := -lim3 n) (l' := -lim4 n) (by omega) (by omega) (by omega) hl' (lim3 n) (lim4 n) hl (.inr rfl) (.inr rfl) (by omega)
  simp only [← Int.sub_eq_add_neg] at u1 u2 v1 v2
  simp only [growR, hc, Bool.false_eq_true, if_false, worldR, ofR, betweenR]
  split
  · rename_i hh; rw [if_pos (hh.imp u1.1 v1.1)]
  · rename_i hh
    have n1 := u2 fun h => hh (.inl h)
    have n2 := v2 fun h => hh (.inr h)
    rw [if_neg (fun h => hh (h.imp u1.2 v1.2))]; apply Rc.ext'; simp only; exact ⟨n1.1, n2.1, n1.2, n2.2⟩
theorem fin_ot1 {p : Pt} (hc : ((p.x < -65536 ∨ 65536 ≤ p.x) ∨ p.y < -65536) ∨ 65536 ≤ p.y) : zR = ofTileR p := by rw [ofTileR, if_pos (by omega)]
theorem fin_ot2 {p : Pt} (hc : ((-65536 ≤ p.x ∧ p.x < 65536) ∧ -65536 ≤ p.y) ∧ p.y < 65536) : (⟨IntKind.i64.wrap (p.x * 16), IntKind.i64.wrap (p.y * 16), 16, 16⟩ : Rc) = ofTileR p := by
  simp (disch := omega) only [w64]; rw [ofTileR, if_neg (by omega)]
theorem wm : IntKind.i64.wrap (0 - 65536) = -65536 := w64 (by omega) (by omega)

section
variable {α : Type} [DecidableEq α] {a b : List α}
theorem sm1 (h : ¬ (a.length : Int) = (b.length : Int)) : false = sameL a b := by
  symm; simp only [sameL, decide_eq_false_iff_not]; intro e; exact h (by rw [e])
theorem sm2 {k : Nat} (z : α) (h : a.getD k z ≠ b.getD k z) : false = sameL a b := by
  symm; simp only [sameL, decide_eq_false_iff_not]; intro e; exact h (by rw [e])
theorem sm5 {k : Nat} (z : α) (hl : (a.length : Int) = (b.length : Int)) (hI : k ≤ a.length ∧ ∀ (j : Nat), j < k → a.getD j z = b.getD j z) (hc : (a.length : Int) ≤ (k : Int)) : true = sameL a b := by
  symm; simp only [sameL, decide_eq_true_eq]
  refine List.ext_getElem (by omega) fun j h1 h2 => ?_
  have := hI.2 j (by omega)
  simpa [List.getD_eq_getElem?_getD, List.getElem?_eq_getElem h1, List.getElem?_eq_getElem h2] using this
theorem sm4 {k j : Nat} (z : α) (hI : ∀ (j : Nat), j < k → a.getD j z = b.getD j z) (hj : j < k + 1) (h : a.getD k z = b.getD k z) : a.getD j z = b.getD j z := by
  by_cases e : j = k
  · rw [e]; exact h
  · exact hI j (by omega)
end
theorem smR {p q : Rc} (h : (p.x == q.x && (p.y == q.y && (p.w == q.w && p.h == q.h))) = false) : p ≠ q := by rintro rfl; simp at h
theorem smP {p q : Pt} (h : (p.x == q.x && p.y == q.y) = false) : p ≠ q := by rintro rfl; simp at h
theorem Pt.ext' {r r' : Pt} (h : r.x = r'.x ∧ r.y = r'.y) : r = r' := by cases r; cases r'; simpa using h

theorem pl_len (l : List Rc) (k : Nat) : (pl l k).length ≤ k := by
  unfold pl; exact Nat.le_trans (List.length_filter_le _ _) (by simp; omega)
theorem w4 {k : Nat} (h : (k : Int) < 1000000) : IntKind.i64.wrap ((k : Int) + 1) = ((k + 1 : Nat) : Int) := by rw [w64 (by omega) (by omega)]; omega
theorem mk1 {a b : Rc} (h : emptyB a = true) : (minusL a b).map rcC = [] := by simp [minusL, h]
theorem mk2 {a b : Rc} (h : emptyB a = false) (h2 : emptyB (meetR a b) = true) : [[D.i a.x, D.i a.y, D.i a.w, D.i a.h]] = (minusL a b).map rcC := by simp [minusL, h, h2, rcC]
section
variable {a b : Rc} {L : List Rc} {k : Nat}
theorem st1 (hL : L.length = 4) (hk : (k : Int) < 4) (h : emptyB (L.getD k zR) = true) : pl L k = pl L (k + 1) := by
  rw [pl_succ (by omega), h]; rfl
theorem st2 (hL : L.length = 4) (hk : (k : Int) < 4) (h : emptyB (L.getD k zR) = false) : pl L k ++ [L.getD k zR] = pl L (k + 1) := by
  rw [pl_succ (by omega), h]; rfl
theorem st3 (hL : L.length = 4) (hk : (k : Int) < 4) (h : emptyB (L.getD k zR) = true) : (pl L k).map rcC = (pl L (k + 1)).map rcC := by rw [st1 hL hk h]
theorem st4 (hL : L.length = 4) (hk : (k : Int) < 4) (h : emptyB (L.getD k zR) = true) : (pl L k).length = (pl L (k + 1)).length := by rw [st1 hL hk h]
theorem st5 (hL : L.length = 4) (hk : (k : Int) < 4) (h : emptyB (L.getD k zR) = false) : (pl L k).map rcC ++ [rcC (L.getD k zR)] = (pl L (k + 1)).map rcC := by rw [← st2 hL hk h]; simp
theorem st6 (hL : L.length = 4) (hk : (k : Int) < 4) (h : emptyB (L.getD k zR) = false) : (pl L k).length + 1 = (pl L (k + 1)).length := by rw [← st2 hL hk h]; simp
theorem st7 (ha : emptyB a = false) (hm : emptyB (meetR a b) = false) (hI : k ≤ 4) (hc : 4 ≤ (k : Int)) : (pl (partsL a (meetR a b)) k).map rcC = (minusL a b).map rcC := by
  have : k = 4 := by omega
  subst this
  simp [minusL, ha, hm, pl, partsL]
/-- The parts as the reference makes them. -/
def partsO (a m : Rc) : List Rc := [ofR a.x (a.x + a.w - 1) a.y (m.y - 1), ofR a.x (m.x - 1) m.y (m.y + m.h - 1), ofR (m.x + m.w) (a.x + a.w - 1) m.y (m.y + m.h - 1), ofR a.x (a.x + a.w - 1) (m.y + m.h) (a.y + a.h - 1)]
theorem filt_congr : ∀ {l l' : List Rc}, l.length = l'.length → (∀ i, (emptyB (l.getD i zR) = true ∧ emptyB (l'.getD i zR) = true) ∨ l.getD i zR = l'.getD i zR) → l.filter (fun p => !emptyB p) = l'.filter (fun p => !emptyB p)
  | [], [], _, _ => rfl
  | p :: l, q :: l', h, hh => by
    have ih := filt_congr (l := l) (l' := l') (by simpa using h) (fun i => by simpa using hh (i + 1))
    have h0 : (emptyB p = true ∧ emptyB q = true) ∨ p = q := by simpa using hh 0
    rcases h0 with ⟨h1, h2⟩ | rfl
    · simp [h1, h2, ih]
    · simp [List.filter_cons, ih]
theorem zR_empty : emptyB zR = true := by decide
theorem of_part {x0 x1 y0 y1 : Int} {p : Rc} (hp : p = ⟨x0, y0, x1 - x0 + 1, y1 - y0 + 1⟩) : (emptyB (ofR x0 x1 y0 y1) = true ∧ emptyB p = true) ∨ ofR x0 x1 y0 y1 = p := by
  unfold ofR
  split
  · left; refine ⟨zR_empty, ?_⟩; rw [empty_true]; subst hp; simp only; omega
  · right; exact hp.symm
theorem partsOL (a m : Rc) : (partsO a m).filter (fun p => !emptyB p) = (partsL a m).filter (fun p => !emptyB p) := by
  refine filt_congr rfl fun i => ?_
  match i with
  | 0 => exact of_part (p := part0 a m) (x0 := a.x) (x1 := a.x + a.w - 1) (y0 := a.y) (y1 := m.y - 1) (by simp only [part0, Rc.mk.injEq, true_and]; omega)
  | 1 => exact of_part (p := part1 a m) (x0 := a.x) (x1 := m.x - 1) (y0 := m.y) (y1 := m.y + m.h - 1) (by simp only [part1, Rc.mk.injEq, true_and]; omega)
  | 2 => exact of_part (p := part2 a m) (x0 := m.x + m.w) (x1 := a.x + a.w - 1) (y0 := m.y) (y1 := m.y + m.h - 1) (by simp only [part2, Rc.mk.injEq, true_and]; omega)
  | 3 => exact of_part (p := part3 a m) (x0 := a.x) (x1 := a.x + a.w - 1) (y0 := m.y + m.h) (y1 := a.y + a.h - 1) (by simp only [part3, Rc.mk.injEq, true_and]; omega)
  | i + 4 => right; simp [partsO, partsL]
theorem st8 (ha : emptyB a = false) (hm : emptyB (meetR a b) = false) (hI : k ≤ 4) (hc : 4 ≤ (k : Int)) : (pl (partsO a (meetR a b)) k).map rcC = (minusL a b).map rcC := by
  rw [← st7 ha hm hI hc]
  have : k = 4 := by omega
  subst this
  congr 1
  exact partsOL _ _
end
/-! tiles -/
def NX (r : Rc) : Nat := (tileI (r.x + r.w - 1) - tileI r.x + 1).toNat
def NY (r : Rc) : Nat := (tileI (r.y + r.h - 1) - tileI r.y + 1).toNat
theorem rowL_len (y x : Int) (n : Nat) : (rowL y x n).length = n := by simp [rowL]
theorem rowL_succ (y x : Int) (n : Nat) : rowL y x (n + 1) = rowL y x n ++ [⟨x + n, y⟩] := by simp [rowL, List.range_succ]
theorem gridL_len (x y : Int) (n : Nat) : ∀ m, (gridL x y n m).length = n * m
  | 0 => rfl
  | m + 1 => by simp [gridL, gridL_len x y n m, rowL_len, Nat.mul_succ]
theorem tile_bd {x : Int} (h1 : -1048576 ≤ x) (h2 : x ≤ 1048576) : -65536 ≤ tileI x ∧ tileI x ≤ 65536 := by unfold tileI; omega
theorem tile_mono {x y : Int} (h : x ≤ y) : tileI x ≤ tileI y := by unfold tileI; omega
structure TB (r : Rc) : Prop where
  x0 : -65536 ≤ tileI r.x
  x1 : tileI (r.x + r.w - 1) ≤ 65536
  y0 : -65536 ≤ tileI r.y
  y1 : tileI (r.y + r.h - 1) ≤ 65536
  xx : tileI r.x ≤ tileI (r.x + r.w - 1)
  yy : tileI r.y ≤ tileI (r.y + r.h - 1)
theorem TB.of {r : Rc} (h : emptyB r = false) : TB r := by
  have := empty_spec.1 h
  exact ⟨(tile_bd (by omega) (by omega)).1, (tile_bd (by omega) (by omega)).2, (tile_bd (by omega) (by omega)).1, (tile_bd (by omega) (by omega)).2, tile_mono (by omega), tile_mono (by omega)⟩
theorem tw {x y : Int} (h1 : -65536 ≤ x) (h2 : x ≤ y) (h3 : y ≤ 65536) : IntKind.i64.wrap (IntKind.i64.wrap (y - x) + 1) = y - x + 1 := by
  rw [w64 (n := y - x) (by omega) (by omega), w64 (by omega) (by omega)]
theorem tw2 {r : Rc} (t : TB r) : IntKind.i64.wrap ((tileI (r.x + r.w - 1) - tileI r.x + 1) * (tileI (r.y + r.h - 1) - tileI r.y + 1)) = (tileI (r.x + r.w - 1) - tileI r.x + 1) * (tileI (r.y + r.h - 1) - tileI r.y + 1) := by
  have hx := t.xx; have hy := t.yy; have := t.x0; have := t.x1; have := t.y0; have := t.y1
  have h1 : 0 ≤ (tileI (r.x + r.w - 1) - tileI r.x + 1) * (tileI (r.y + r.h - 1) - tileI r.y + 1) := Int.mul_nonneg (by omega) (by omega)
  have h2 : (tileI (r.x + r.w - 1) - tileI r.x + 1) * (tileI (r.y + r.h - 1) - tileI r.y + 1) ≤ 131073 * (tileI (r.y + r.h - 1) - tileI r.y + 1) := Int.mul_le_mul_of_nonneg_right (by omega) (by omega)
  exact w64 (by omega) (by omega)
theorem nm_le {r : Rc} (t : TB r) (h : (tileI (r.x + r.w - 1) - tileI r.x + 1) * (tileI (r.y + r.h - 1) - tileI r.y + 1) ≤ 4096) : NX r * NY r ≤ 4096 := by
  have hx : (NX r : Int) = tileI (r.x + r.w - 1) - tileI r.x + 1 := by unfold NX; have := t.xx; omega
  have hy : (NY r : Int) = tileI (r.y + r.h - 1) - tileI r.y + 1 := by unfold NY; have := t.yy; omega
  rw [← hx, ← hy] at h
  have h' : ((NX r * NY r : Nat) : Int) ≤ 4096 := by rw [Int.natCast_mul]; exact h
  omega
def gr (r : Rc) (j : Nat) : List Pt := gridL (tileI r.x) (tileI r.y) (NX r) j
def gri (r : Rc) (j i : Nat) : List Pt := gr r j ++ rowL (tileI r.y + j) (tileI r.x) i
section
variable {r : Rc} {i j : Nat}
theorem tl0 : (tilesL r).map ptC = (tilesL r).map ptC := rfl
theorem tl1 (h : emptyB r = true) : (tilesL r).map ptC = [] := by unfold tilesL; rw [if_pos h]; rfl
theorem tl2 (h : emptyB r = false) (hc : 4096 < (tileI (r.x + r.w - 1) - tileI r.x + 1) * (tileI (r.y + r.h - 1) - tileI r.y + 1)) : (tilesL r).map ptC = [] := by
  unfold tilesL; rw [if_neg (by simp [h]), if_pos hc]; rfl
theorem tl3 (t : TB r) (h : emptyB r = false) (hm : (tileI (r.x + r.w - 1) - tileI r.x + 1) * (tileI (r.y + r.h - 1) - tileI r.y + 1) ≤ 4096) (hI : j ≤ NY r) (hc : tileI (r.y + r.h - 1) < tileI r.y + (j : Int)) : (gr r j).map ptC = (tilesL r).map ptC := by
  have hj : j = NY r := by have := t.yy; unfold NY at hI ⊢; omega
  unfold tilesL; rw [if_neg (by simp [h]), if_neg (by omega), hj]; rfl
theorem tj {X : Int} (h1 : -65536 ≤ X) (h2 : X + (i : Int) ≤ 65536) : IntKind.i64.wrap (X + (i : Int) + 1) = X + ((i + 1 : Nat) : Int) := by rw [w64 (by omega) (by omega)]; omega
theorem tk1 : (gr r j).map ptC = (gri r j 0).map ptC := by simp [gri, rowL]
theorem tk2 : (gr r j).length = (gri r j 0).length := by simp [gri, rowL]
theorem tk3 : (gri r j i).map ptC ++ [[.i (tileI r.x + (i : Int)), .i (tileI r.y + (j : Int))]] = (gri r j (i + 1)).map ptC := by simp [gri, rowL_succ, ptC]
theorem tk4 : (gri r j i).length + 1 = (gri r j (i + 1)).length := by simp [gri, rowL_succ]; omega
theorem tk5 (t : TB r) (hI : i ≤ NX r) (hc : tileI (r.x + r.w - 1) < tileI r.x + (i : Int)) : gri r j i = gr r (j + 1) := by
  have hj : i = NX r := by have := t.xx; unfold NX at hI ⊢; omega
  rw [gri, gr, gr, gridL, hj]
theorem tk6 (t : TB r) (hI : i ≤ NX r) (hc : tileI (r.x + r.w - 1) < tileI r.x + (i : Int)) : (gri r j i).map ptC = (gr r (j + 1)).map ptC := by rw [tk5 t hI hc]
theorem tk7 (t : TB r) (hI : i ≤ NX r) (hc : tileI (r.x + r.w - 1) < tileI r.x + (i : Int)) : (gri r j i).length = (gr r (j + 1)).length := by rw [tk5 t hI hc]
theorem tlx (t : TB r) (h : tileI r.x + (i : Int) ≤ tileI (r.x + r.w - 1)) : i < NX r := by unfold NX; omega
theorem tly (t : TB r) (h : tileI r.y + (j : Int) ≤ tileI (r.y + r.h - 1)) : j < NY r := by unfold NY; omega
theorem gri_bd (hn : NX r * NY r ≤ 4096) (hj : j < NY r) (hi : i < NX r) : (gri r j i).length < 4096 := by
  have h1 : NX r * (j + 1) ≤ NX r * NY r := Nat.mul_le_mul_left _ hj
  simp only [gri, gr, List.length_append, gridL_len, rowL_len]
  rw [Nat.mul_add] at h1; omega
theorem gri_b2 (hn : NX r * NY r ≤ 4096) (hj : j < NY r) (hi : i < NX r) : ((gri r j i).length + 1) * 16 ≤ 140737488355328 := by have := gri_bd hn hj hi; omega
theorem gri_b3 (hn : NX r * NY r ≤ 4096) (hj : j < NY r) (hi : i < NX r) : (gri r j i).length + 1 ≤ maxLen := by have := gri_bd hn hj hi; unfold maxLen; omega
end

end Go.Rect

namespace Go.Rect
open Go.Eng
/-! ### The plain laws 8 to 11 -/
theorem empty_z : emptyB zR = true := rfl
/-- The intersection, in two cases. -/
theorem meet_cases (a b : Rc) : (meetR a b = zR ∧ (emptyB a = true ∨ emptyB b = true ∨ min (a.x + a.w) (b.x + b.w) ≤ max a.x b.x ∨ min (a.y + a.h) (b.y + b.h) ≤ max a.y b.y)) ∨
    (emptyB a = false ∧ emptyB b = false ∧ emptyB (meetR a b) = false ∧ (meetR a b).x = max a.x b.x ∧ (meetR a b).y = max a.y b.y ∧
      (meetR a b).w = min (a.x + a.w) (b.x + b.w) - max a.x b.x ∧ (meetR a b).h = min (a.y + a.h) (b.y + b.h) - max a.y b.y) := by
  cases ha : emptyB a
  · cases hb : emptyB b
    · have h1 := empty_spec.1 ha; have h2 := empty_spec.1 hb
      have e : meetR a b = betweenR (max a.x b.x) (max a.y b.y) (min (a.x + a.w) (b.x + b.w)) (min (a.y + a.h) (b.y + b.h)) := by simp [meetR, ha, hb]
      by_cases hc : min (a.x + a.w) (b.x + b.w) ≤ max a.x b.x ∨ min (a.y + a.h) (b.y + b.h) ≤ max a.y b.y
      · left; refine ⟨?_, .inr (.inr hc)⟩
        rw [e, betweenR, if_pos (by omega)]
      · right
        have e2 : meetR a b = ⟨max a.x b.x, max a.y b.y, min (a.x + a.w) (b.x + b.w) - max a.x b.x, min (a.y + a.h) (b.y + b.h) - max a.y b.y⟩ := by
          rw [e, betweenR, if_neg (by omega)]
          apply Rc.ext'; simp only; omega
        refine ⟨rfl, rfl, ?_, ?_⟩
        · rw [empty_spec, e2]; simp only; omega
        · rw [e2]; simp
    · left; exact ⟨by simp [meetR, hb], .inr (.inl rfl)⟩
  · left; exact ⟨by simp [meetR, ha], .inl rfl⟩
theorem meet_z1 (a : Rc) : meetR zR a = zR := by simp [meetR, empty_z]
theorem meet_z2 (a : Rc) : meetR a zR = zR := by simp [meetR, empty_z]
/-- A rectangle that is not empty, by its pixels. -/
theorem has_spec {r : Rc} {p : Pt} : hasB r p = true ↔ emptyB r = false ∧ r.x ≤ p.x ∧ p.x < r.x + r.w ∧ r.y ≤ p.y ∧ p.y < r.y + r.h := by
  simp only [hasB, Bool.and_eq_true, decide_eq_true_eq, valid_spec, empty_spec]; omega
def canB (r : Rc) : Prop := emptyB r = true → r = zR
theorem can_meet (a b : Rc) : canB (meetR a b) := by
  intro h
  rcases meet_cases a b with ⟨e, _⟩ | ⟨_, _, h3, _⟩
  · exact e
  · rw [h] at h3; cases h3
theorem can_ne {r : Rc} (h : emptyB r = false) : canB r := fun h' => by rw [h] at h'; cases h'
theorem has_ext {r s : Rc} (hr : canB r) (hs : canB s) (h : ∀ p, hasB r p = hasB s p) : r = s := by
  cases er : emptyB r
  · have b1 := empty_spec.1 er
    have c1 : hasB r ⟨r.x, r.y⟩ = true := has_spec.2 ⟨er, by simp only; omega⟩
    have c2 : hasB r ⟨r.x + r.w - 1, r.y + r.h - 1⟩ = true := has_spec.2 ⟨er, by simp only; omega⟩
    rw [h] at c1 c2
    have d1 := has_spec.1 c1; have d2 := has_spec.1 c2
    have es := d1.1
    have b2 := empty_spec.1 es
    have c3 : hasB s ⟨s.x, s.y⟩ = true := has_spec.2 ⟨es, by simp only; omega⟩
    have c4 : hasB s ⟨s.x + s.w - 1, s.y + s.h - 1⟩ = true := has_spec.2 ⟨es, by simp only; omega⟩
    rw [← h] at c3 c4
    have d3 := has_spec.1 c3; have d4 := has_spec.1 c4
    simp only at d1 d2 d3 d4
    exact Rc.ext' ⟨by omega, by omega, by omega, by omega⟩
  · cases es : emptyB s
    · have b2 := empty_spec.1 es
      have c3 : hasB s ⟨s.x, s.y⟩ = true := has_spec.2 ⟨es, by simp only; omega⟩
      rw [← h] at c3
      have := (has_spec.1 c3).1
      rw [er] at this; cases this
    · rw [hr er, hs es]
theorem meet_has (a b : Rc) (p : Pt) : hasB (meetR a b) p = (hasB a p && hasB b p) := by
  rw [Bool.eq_iff_iff, Bool.and_eq_true, has_spec, has_spec, has_spec]
  rcases meet_cases a b with ⟨e, h⟩ | ⟨h1, h2, h3, h4, h5, h6, h7⟩
  · rw [e]
    constructor
    · intro h'; exact absurd h'.1 (by decide)
    · intro ⟨⟨g1, g2⟩, ⟨g3, g4⟩⟩
      simp only [g1, g3, Bool.false_eq_true, false_or] at h; omega
  · simp only [h1, h2, h3, h4, h5, h6, h7, true_and]; omega
theorem meet_comm (a b : Rc) : meetR a b = meetR b a := has_ext (can_meet _ _) (can_meet _ _) fun p => by rw [meet_has, meet_has, Bool.and_comm]
theorem meet_assoc (a b c : Rc) : meetR (meetR a b) c = meetR a (meetR b c) := has_ext (can_meet _ _) (can_meet _ _) fun p => by simp only [meet_has, Bool.and_assoc]
theorem meet_self {a : Rc} (h : emptyB a = false) : meetR a a = a := by
  have := empty_spec.1 h
  rcases meet_cases a a with ⟨e, h'⟩ | ⟨h1, h2, h3, h4⟩
  · simp only [h, Bool.false_eq_true, false_or] at h'; omega
  · exact Rc.ext' ⟨by omega, by omega, by omega, by omega⟩
theorem meet_idem (a b : Rc) : meetR (meetR a b) (meetR a b) = meetR a b := by
  rcases meet_cases a b with ⟨e, h⟩ | ⟨h1, h2, h3, h4⟩
  · rw [e]; rfl
  · exact meet_self h3
theorem within_spec {a b : Rc} : withinB a b = true ↔ emptyB a = true ∨ (emptyB b = false ∧ b.x ≤ a.x ∧ a.x + a.w ≤ b.x + b.w ∧ b.y ≤ a.y ∧ a.y + a.h ≤ b.y + b.h) := by
  simp only [withinB, Bool.or_eq_true, Bool.and_eq_true, Bool.not_eq_true', decide_eq_true_eq, and_assoc]
theorem meet_in1 (a b : Rc) : withinB (meetR a b) a = true := by
  rw [within_spec]
  rcases meet_cases a b with ⟨e, h⟩ | ⟨h1, h2, h3, h4⟩
  · rw [e]; exact .inl rfl
  · exact .inr ⟨h1, by omega⟩
theorem meet_in2 (a b : Rc) : withinB (meetR a b) b = true := by rw [meet_comm]; exact meet_in1 b a
theorem meet_within {a b : Rc} (h : emptyB a = false) (hw : withinB a b = true) : meetR a b = a := by
  rw [within_spec] at hw
  rcases hw with hw | ⟨hb, hw⟩
  · rw [h] at hw; cases hw
  have := empty_spec.1 h
  rcases meet_cases a b with ⟨e, h'⟩ | ⟨h1, h2, h3, h4⟩
  · simp only [h, hb, Bool.false_eq_true, false_or] at h'; omega
  · exact Rc.ext' ⟨by omega, by omega, by omega, by omega⟩
theorem join_cases {a : Rc} (b : Rc) (h : emptyB a = false) : (emptyB b = true ∧ joinR a b = a) ∨ (emptyB b = false ∧ emptyB (joinR a b) = false ∧ (joinR a b).x = min a.x b.x ∧ (joinR a b).y = min a.y b.y ∧
    (joinR a b).w = max (a.x + a.w) (b.x + b.w) - min a.x b.x ∧ (joinR a b).h = max (a.y + a.h) (b.y + b.h) - min a.y b.y) := by
  cases hb : emptyB b
  · right
    have h1 := empty_spec.1 h; have h2 := empty_spec.1 hb
    have e2 : joinR a b = ⟨min a.x b.x, min a.y b.y, max (a.x + a.w) (b.x + b.w) - min a.x b.x, max (a.y + a.h) (b.y + b.h) - min a.y b.y⟩ := by
      simp only [joinR, h, hb, Bool.and_self, Bool.false_eq_true, if_false]
      rw [betweenR, if_neg (by omega)]
      apply Rc.ext'; simp only; omega
    refine ⟨rfl, ?_, ?_⟩
    · rw [empty_spec, e2]; simp only; omega
    · rw [e2]; simp
  · left; exact ⟨rfl, by simp [joinR, h, hb]⟩
theorem meet_join {a b : Rc} (h : emptyB a = false) : meetR a (joinR a b) = a := by
  apply meet_within h
  rw [within_spec]; right
  rcases join_cases b h with ⟨_, e⟩ | ⟨_, h1, h2⟩
  · rw [e]; exact ⟨h, by omega⟩
  · exact ⟨h1, by omega⟩

/-! ### The pieces of Minus -/
theorem area_nn {r : Rc} (h : (-1048576 ≤ r.x ∧ r.x ≤ 1048576 ∧ 0 ≤ r.w ∧ r.w ≤ 1048576 - r.x) ∧ (-1048576 ≤ r.y ∧ r.y ≤ 1048576 ∧ 0 ≤ r.h ∧ r.h ≤ 1048576 - r.y)) : areaI r = r.w * r.h := by
  cases e : emptyB r
  · simp [areaI, e]
  · have := empty_true.1 e
    simp only [areaI, e, if_true]
    by_cases hw : r.w = 0
    · rw [hw]; simp
    · have : r.h = 0 := by omega
      rw [this]; simp
theorem area_sum {l : List Rc} : (((l.filter fun p => !emptyB p)).map areaI).sum = (l.map areaI).sum := by
  induction l with
  | nil => rfl
  | cons a l ih =>
    cases e : emptyB a
    · simp [e, ih]
    · simp [e, ih, areaI]
theorem apart_of {x y : Rc} (h : x.x + x.w ≤ y.x ∨ y.x + y.w ≤ x.x ∨ x.y + x.h ≤ y.y ∨ y.y + y.h ≤ x.y) : emptyB (meetR x y) = true := by
  rcases meet_cases x y with ⟨e, _⟩ | ⟨g1, g2, g3, g4, g5, g6, g7⟩
  · rw [e]; rfl
  · have k4 := empty_spec.1 g3; omega
theorem empty_no {r : Rc} (h : ∀ p, hasB r p = false) : emptyB r = true := by
  cases e : emptyB r
  · have := empty_spec.1 e
    have c : hasB r ⟨r.x, r.y⟩ = true := has_spec.2 ⟨e, by simp only; omega⟩
    rw [h] at c; cases c
  · rfl
theorem no_empty {r : Rc} (h : emptyB r = true) (p : Pt) : hasB r p = false := by
  cases e : hasB r p
  · rfl
  · have := (has_spec.1 e).1; rw [h] at this; cases this
theorem within_has {x a : Rc} {p : Pt} (hw : withinB x a = true) (hx : hasB x p = true) : hasB a p = true := by
  have h1 := has_spec.1 hx
  rcases within_spec.1 hw with h | ⟨h, h2⟩
  · rw [h1.1] at h; cases h
  · exact has_spec.2 ⟨h, by omega⟩
theorem piece_off {x a b : Rc} (hw : withinB x a = true) (h : emptyB (meetR x (meetR a b)) = true) : emptyB (meetR x b) = true := by
  apply empty_no; intro p
  have := no_empty h p
  rw [meet_has, meet_has] at this
  rw [meet_has]
  cases hx : hasB x p
  · rfl
  · rw [hx, within_has hw hx] at this; simpa using this
/-- What holds of all pieces. -/
theorem minus_mem {a b x : Rc} (h : x ∈ minusL a b) : emptyB x = false ∧ withinB x a = true ∧ emptyB (meetR x b) = true := by
  unfold minusL at h
  split at h
  · simp at h
  rename_i ha
  have ha : emptyB a = false := by simpa using ha
  split at h
  · rename_i hm
    simp at h; subst h
    exact ⟨ha, within_spec.2 (.inr ⟨ha, by omega⟩), hm⟩
  · rename_i hm
    have hm : emptyB (meetR a b) = false := by simpa using hm
    rcases meet_cases a b with ⟨e, _⟩ | ⟨h1, h2, h3, h4, h5, h6, h7⟩
    · rw [e] at hm; cases hm
    have k1 := empty_spec.1 h1; have k2 := empty_spec.1 h2; have k3 := empty_spec.1 hm
    simp only [List.mem_filter, List.mem_cons, List.not_mem_nil, or_false, Bool.not_eq_true'] at h
    obtain ⟨h, hx⟩ := h
    have hw : withinB x a = true := within_spec.2 (.inr ⟨ha, by rcases h with rfl | rfl | rfl | rfl <;> simp only [part0, part1, part2, part3] <;> omega⟩)
    refine ⟨hx, hw, piece_off hw (apart_of ?_)⟩
    rcases h with rfl | rfl | rfl | rfl <;> simp only [part0, part1, part2, part3] <;> omega
theorem minus_pair (a b : Rc) : (minusL a b).Pairwise fun x y => emptyB (meetR y x) = true := by
  unfold minusL
  split
  · exact .nil
  split
  · exact List.pairwise_singleton _ _
  · rename_i ha hm
    have hm : emptyB (meetR a b) = false := by simpa using hm
    rcases meet_cases a b with ⟨e, _⟩ | ⟨h1, h2, h3, h4, h5, h6, h7⟩
    · rw [e] at hm; cases hm
    have k1 := empty_spec.1 h1; have k3 := empty_spec.1 hm
    apply List.Pairwise.filter
    refine List.Pairwise.cons ?_ (List.Pairwise.cons ?_ (List.Pairwise.cons ?_ (List.Pairwise.cons ?_ .nil)))
    all_goals (intro y hy; simp only [List.mem_cons, List.not_mem_nil, or_false] at hy)
    · rcases hy with rfl | rfl | rfl <;> (apply apart_of; simp only [part0, part1, part2, part3]; omega)
    · rcases hy with rfl | rfl <;> (apply apart_of; simp only [part0, part1, part2, part3]; omega)
    · rcases hy with rfl; apply apart_of; simp only [part0, part1, part2, part3]; omega
    
theorem minus_sum (a b : Rc) : areaI (meetR a b) + ((minusL a b).map areaI).sum = areaI a := by
  unfold minusL
  split
  · rename_i ha
    have e : meetR a b = zR := by simp [meetR, ha]
    rw [e]; simp [areaI, ha, empty_z]
  split
  · rename_i ha hm
    simp [areaI, hm]
  · rename_i ha hm
    have hm : emptyB (meetR a b) = false := by simpa using hm
    rcases meet_cases a b with ⟨e, _⟩ | ⟨h1, h2, h3, h4, h5, h6, h7⟩
    · rw [e] at hm; cases hm
    have k1 := empty_spec.1 h1; have k2 := empty_spec.1 h2; have k3 := empty_spec.1 hm
    rw [area_sum]
    generalize meetR a b = m at *
    simp only [List.map_cons, List.map_nil, List.sum_cons, List.sum_nil]
    rw [area_nn (r := m) (by omega), area_nn (r := a) (by omega), area_nn (r := part0 a m) (by simp only [part0]; omega), area_nn (r := part1 a m) (by simp only [part1]; omega), area_nn (r := part2 a m) (by simp only [part2]; omega), area_nn (r := part3 a m) (by simp only [part3]; omega)]
    simp only [part0, part1, part2, part3]
    simp only [Int.mul_sub, Int.sub_mul, Int.mul_add, Int.add_mul]
    omega
theorem minus_len (a b : Rc) : (minusL a b).length ≤ 4 := by
  unfold minusL
  split
  · simp
  split
  · simp
  · exact Nat.le_trans (List.length_filter_le _ _) (by simp)
def sumK (a b : Rc) (k : Nat) : Int := areaI (meetR a b) + (((minusL a b).take k).map areaI).sum

theorem lt1 {a b c : Rc} (hc : ((meetR a b).x == (meetR b a).x && ((meetR a b).y == (meetR b a).y && ((meetR a b).w == (meetR b a).w && (meetR a b).h == (meetR b a).h))) = false ∨
    ((meetR (meetR a b) c).x == (meetR a (meetR b c)).x && ((meetR (meetR a b) c).y == (meetR a (meetR b c)).y && ((meetR (meetR a b) c).w == (meetR a (meetR b c)).w && (meetR (meetR a b) c).h == (meetR a (meetR b c)).h))) = false) : False := by
  rw [meet_assoc a b c, meet_comm b a] at hc; simp at hc
theorem lt2 {a b : Rc} (hc : (((meetR (meetR a b) (meetR a b)).x == (meetR a b).x && ((meetR (meetR a b) (meetR a b)).y == (meetR a b).y && ((meetR (meetR a b) (meetR a b)).w == (meetR a b).w && (meetR (meetR a b) (meetR a b)).h == (meetR a b).h))) = false ∨
    withinB (meetR a b) a = false) ∨ withinB (meetR a b) b = false) : False := by
  rw [meet_idem, meet_in1, meet_in2] at hc; simp at hc
theorem lt3 (a b : Rc) : emptyB a = true ∨ ((meetR a a).x = a.x ∧ (meetR a a).y = a.y ∧ (meetR a a).w = a.w ∧ (meetR a a).h = a.h) ∧
    (meetR a (joinR a b)).x = a.x ∧ (meetR a (joinR a b)).y = a.y ∧ (meetR a (joinR a b)).w = a.w ∧ (meetR a (joinR a b)).h = a.h := by
  cases h : emptyB a
  · rw [meet_self h, meet_join h]; simp
  · exact .inl rfl
theorem pc0 (a b : Rc) : areaI (meetR a b) = sumK a b 0 := by simp [sumK]
theorem pc1 {a b : Rc} (hc : 4 < ((minusL a b).length : Int)) : False := by have := minus_len a b; omega
theorem getD_mem {α : Type} {l : List α} {k : Nat} {z : α} (h : (k : Int) < (l.length : Int)) : l.getD k z ∈ l := by
  have h : k < l.length := by omega
  rw [List.getD_eq_getElem?_getD, List.getElem?_eq_getElem h]; exact List.getElem_mem h
theorem pc2 {a b : Rc} {k : Nat} (h : (k : Int) < ((minusL a b).length : Int)) (hc : (emptyB ((minusL a b).getD k zR) = true ∨ withinB ((minusL a b).getD k zR) a = false) ∨ emptyB (meetR ((minusL a b).getD k zR) b) = false) : False := by
  obtain ⟨h1, h2, h3⟩ := minus_mem (getD_mem (z := zR) h)
  rw [h1, h2, h3] at hc; simp at hc
theorem areaI_nn (r : Rc) : 0 ≤ areaI r := by
  cases h : emptyB r
  · have := area_bd h; simp [areaI, h]; omega
  · simp [areaI, h]
theorem areaI_le (r : Rc) : areaI r ≤ 4398046511104 := by
  cases h : emptyB r
  · have := area_bd h; simp [areaI, h]; omega
  · simp [areaI, h]
theorem sum_nn {l : List Int} (h : ∀ x ∈ l, 0 ≤ x) : 0 ≤ l.sum := by
  induction l with
  | nil => simp
  | cons a l ih =>
    have := h a (by simp); have := ih fun x hx => h x (by simp [hx])
    simp; omega
theorem take_succ' {α : Type} {l : List α} {k : Nat} {z : α} (h : (k : Int) < (l.length : Int)) : l.take (k + 1) = l.take k ++ [l.getD k z] := by
  have h : k < l.length := by omega
  rw [List.take_add_one, List.getD_eq_getElem?_getD, List.getElem?_eq_getElem h]; rfl
theorem sum_take {l : List Int} (h : ∀ x ∈ l, 0 ≤ x) (k : Nat) : 0 ≤ (l.take k).sum ∧ (l.take k).sum ≤ l.sum := by
  refine ⟨sum_nn fun x hx => h x (List.mem_of_mem_take hx), ?_⟩
  have e : l.sum = (l.take k).sum + (l.drop k).sum := by rw [← List.sum_append, List.take_append_drop]
  have := sum_nn (l := l.drop k) fun x hx => h x (List.mem_of_mem_drop hx)
  omega
theorem sumK_bd (a b : Rc) (k : Nat) : 0 ≤ sumK a b k ∧ sumK a b k ≤ 4398046511104 := by
  have h := sum_take (l := (minusL a b).map areaI) (fun x hx => by obtain ⟨y, _, rfl⟩ := List.mem_map.1 hx; exact areaI_nn y) k
  have := minus_sum a b; have := areaI_le a; have := areaI_nn (meetR a b)
  rw [← List.map_take] at h
  unfold sumK; omega
theorem pc5 {a b : Rc} {k : Nat} (h : (k : Int) < ((minusL a b).length : Int)) : IntKind.i64.wrap (sumK a b k + areaI ((minusL a b).getD k zR)) = sumK a b (k + 1) := by
  have h1 := sumK_bd a b k; have h2 := areaI_le ((minusL a b).getD k zR); have h3 := areaI_nn ((minusL a b).getD k zR)
  rw [w64 (by omega) (by omega)]
  simp only [sumK, take_succ' (z := zR) h, List.map_append, List.sum_append, List.map_cons, List.map_nil, List.sum_cons, List.sum_nil]; omega
theorem pc4 {a b : Rc} {k : Nat} (hI : k ≤ (minusL a b).length) (hc : ((minusL a b).length : Int) ≤ (k : Int)) : sumK a b k = areaI a := by
  rw [sumK, List.take_of_length_le (by omega)]; exact minus_sum a b
theorem pc3 {a b : Rc} {k j : Nat} (hJ : j ≤ k) (h : (k : Int) < ((minusL a b).length : Int)) (h' : (j : Int) < (((minusL a b).take k).length : Int)) (hc : emptyB (meetR ((minusL a b).getD k zR) (((minusL a b).take k).getD j zR)) = false) : False := by
  have e : ((minusL a b).take k).length = k := by rw [List.length_take]; omega
  rw [e] at h'
  have p := List.pairwise_iff_getElem.1 (minus_pair a b) j k (by omega) (by omega) (by omega)
  have e1 : (minusL a b).getD k zR = (minusL a b)[k]'(by omega) := by rw [List.getD_eq_getElem?_getD, List.getElem?_eq_getElem (by omega)]; rfl
  have e2 : ((minusL a b).take k).getD j zR = (minusL a b)[j]'(by omega) := by
    rw [List.getD_eq_getElem?_getD, List.getElem?_take_of_lt (by omega), List.getElem?_eq_getElem (by omega)]; rfl
  rw [e1, e2, p] at hc; cases hc
theorem pc6 {l : List Rc} {k j : Nat} (hJ : j ≤ k) (h' : (j : Int) < ((l.take k).length : Int)) : j + 1 ≤ k := by
  rw [List.length_take] at h'; omega
theorem pc7 {l : List Rc} {k j : Nat} (h' : (j : Int) < ((l.take k).length : Int)) : k - (j + 1) < k - j := by
  rw [List.length_take] at h'; omega
/-! ### The tiles of a rectangle -/
def arT (r : Rc) (t : Pt) : Int := areaI (meetR (ofTileR t) r)
def sumT (r : Rc) (k : Nat) : Int := (((tilesL r).take k).map (arT r)).sum
def ov (x w t : Int) : Int := min (16 * t + 16) (x + w) - max (16 * t) x
def pre (x w : Int) (n : Nat) : Int := max 0 (min (16 * (tileI x + n)) (x + w) - x)
theorem pre_succ {x w : Int} {n : Nat} (hw : 0 < w) (hn : tileI x + n ≤ tileI (x + w - 1)) : pre x w (n + 1) = pre x w n + ov x w (tileI x + n) := by
  unfold pre ov tileI at *; omega
theorem pre_all {x w : Int} {n : Nat} (hw : 0 < w) (hn : (n : Int) = tileI (x + w - 1) - tileI x + 1) : pre x w n = w := by
  unfold pre tileI at *; omega
theorem arT_in {r : Rc} {t : Pt} (h : emptyB r = false) (hx : tileI r.x ≤ t.x ∧ t.x ≤ tileI (r.x + r.w - 1)) (hy : tileI r.y ≤ t.y ∧ t.y ≤ tileI (r.y + r.h - 1)) :
    arT r t = ov r.x r.w t.x * ov r.y r.h t.y ∧ 0 < ov r.x r.w t.x ∧ 0 < ov r.y r.h t.y := by
  have b := empty_spec.1 h
  have o1 : 0 < ov r.x r.w t.x := by unfold ov tileI at *; omega
  have o2 : 0 < ov r.y r.h t.y := by unfold ov tileI at *; omega
  refine ⟨?_, o1, o2⟩
  have e : ofTileR t = ⟨t.x * 16, t.y * 16, 16, 16⟩ := by
    rw [ofTileR, if_neg]; unfold tileI at *; omega
  have ne : emptyB (⟨t.x * 16, t.y * 16, 16, 16⟩ : Rc) = false := by
    rw [empty_spec]; simp only; unfold tileI at *; omega
  rw [arT, e]
  rcases meet_cases ⟨t.x * 16, t.y * 16, 16, 16⟩ r with ⟨_, h'⟩ | ⟨_, _, h3, h4, h5, h6, h7⟩
  · simp only [h, ne, Bool.false_eq_true, false_or] at h'
    unfold ov at o1 o2; omega
  · rw [areaI, if_neg (by simp [h3]), h6, h7]
    simp only
    congr 1 <;> (unfold ov; omega)
theorem row_sum {r : Rc} (h : emptyB r = false) {y : Int} (hy : tileI r.y ≤ y ∧ y ≤ tileI (r.y + r.h - 1)) : ∀ (n : Nat), tileI r.x + n ≤ tileI (r.x + r.w - 1) + 1 → ((rowL y (tileI r.x) n).map (arT r)).sum = pre r.x r.w n * ov r.y r.h y
  | 0, _ => by
    have : pre r.x r.w 0 = 0 := by unfold pre tileI; omega
    simp [rowL, this]
  | n + 1, hn => by
    have b := empty_spec.1 h
    have ih := row_sum h hy n (by omega)
    have e : rowL y (tileI r.x) (n + 1) = rowL y (tileI r.x) n ++ [⟨tileI r.x + n, y⟩] := by simp [rowL, List.range_succ]
    rw [e, List.map_append, List.sum_append, ih, pre_succ (by omega) (by omega)]
    simp only [List.map_cons, List.map_nil, List.sum_cons, List.sum_nil, Int.add_zero]
    rw [(arT_in (t := ⟨tileI r.x + n, y⟩) h ⟨by simp only; omega, by simp only; omega⟩ hy).1, Int.add_mul]
theorem grid_sum {r : Rc} (h : emptyB r = false) : ∀ (m : Nat), tileI r.y + m ≤ tileI (r.y + r.h - 1) + 1 → ((gridL (tileI r.x) (tileI r.y) (NX r) m).map (arT r)).sum = r.w * pre r.y r.h m
  | 0, _ => by
    have : pre r.y r.h 0 = 0 := by unfold pre tileI; omega
    simp [gridL, this]
  | m + 1, hm => by
    have b := empty_spec.1 h
    have ih := grid_sum h m (by omega)
    have t : (NX r : Int) = tileI (r.x + r.w - 1) - tileI r.x + 1 := by unfold NX tileI; omega
    rw [gridL, List.map_append, List.sum_append, ih, row_sum h ⟨by omega, by omega⟩ _ (by omega), pre_all (n := NX r) (by omega) t, pre_succ (by omega) (by omega), Int.mul_add]
theorem grid_mem {x0 y0 : Int} {n : Nat} {t : Pt} : ∀ {m : Nat}, t ∈ gridL x0 y0 n m → x0 ≤ t.x ∧ t.x < x0 + n ∧ y0 ≤ t.y ∧ t.y < y0 + m
  | 0, h => by simp [gridL] at h
  | m + 1, h => by
    rw [gridL, List.mem_append] at h
    rcases h with h | h
    · have := grid_mem h; omega
    · simp only [rowL, List.mem_map, List.mem_range] at h
      obtain ⟨i, hi, rfl⟩ := h
      simp only; omega
theorem tiles_def {r : Rc} (h : tilesL r ≠ []) : emptyB r = false ∧ tilesL r = gridL (tileI r.x) (tileI r.y) (NX r) (NY r) := by
  unfold tilesL at h ⊢
  split at h
  · simp at h
  split at h
  · simp at h
  · rename_i h1 h2
    have h1 : emptyB r = false := by simpa using h1
    rw [if_neg (by simp [h1]), if_neg h2]
    exact ⟨h1, rfl⟩
theorem NN {r : Rc} (h : emptyB r = false) : (NX r : Int) = tileI (r.x + r.w - 1) - tileI r.x + 1 ∧ (NY r : Int) = tileI (r.y + r.h - 1) - tileI r.y + 1 := by
  have b := empty_spec.1 h
  unfold NX NY tileI; omega
theorem tiles_pos {r : Rc} {t : Pt} (h : t ∈ tilesL r) : 1 ≤ arT r t := by
  obtain ⟨h1, h2⟩ := tiles_def (List.ne_nil_of_mem h)
  rw [h2] at h
  have m := grid_mem h; have n := NN h1
  obtain ⟨e, o1, o2⟩ := arT_in (t := t) h1 ⟨by omega, by omega⟩ ⟨by omega, by omega⟩
  rw [e]; exact Int.mul_pos o1 o2
theorem tiles_sum {r : Rc} (h : tilesL r ≠ []) : ((tilesL r).map (arT r)).sum = areaI r := by
  obtain ⟨h1, h2⟩ := tiles_def h
  have n := NN h1; have b := empty_spec.1 h1
  rw [h2, grid_sum h1 _ (by omega), pre_all (by omega) n.2, areaI, if_neg (by simp [h1])]
theorem grid_len {x0 y0 : Int} {n : Nat} : ∀ {m : Nat}, (gridL x0 y0 n m).length = m * n
  | 0 => by simp [gridL]
  | m + 1 => by simp [gridL, rowL, grid_len (m := m), Nat.add_mul]
theorem cv1 {r : Rc} (hc : 4096 < ((tilesL r).length : Int)) : False := by
  have h : tilesL r ≠ [] := by intro h; rw [h] at hc; simp at hc
  obtain ⟨h1, h2⟩ := tiles_def h
  have h3 : ¬ (tileI (r.x + r.w - 1) - tileI r.x + 1) * (tileI (r.y + r.h - 1) - tileI r.y + 1) > 4096 := by
    intro h3; apply h; unfold tilesL; rw [if_neg (by simp [h1]), if_pos h3]
  have n := NN h1
  rw [h2, grid_len] at hc
  rw [← n.1, ← n.2, ← Int.natCast_mul, Nat.mul_comm] at h3
  omega
theorem cv2 {r : Rc} (hc : ((tilesL r).length : Int) = 0) : (emptyB r = true ∨ 100 < r.w) ∨ 100 < r.h := by
  cases h1 : emptyB r
  · by_cases hw : 100 < r.w
    · exact .inl (.inr hw)
    by_cases hh : 100 < r.h
    · exact .inr hh
    exfalso
    have b := empty_spec.1 h1
    have n := NN h1
    have hx : 1 ≤ NX r ∧ NX r ≤ 10 := by unfold tileI at n; omega
    have hy : 1 ≤ NY r ∧ NY r ≤ 10 := by unfold tileI at n; omega
    have h4 : NX r * NY r ≤ 10 * 10 := Nat.mul_le_mul hx.2 hy.2
    have e : tilesL r = gridL (tileI r.x) (tileI r.y) (NX r) (NY r) := by
      unfold tilesL
      rw [if_neg (by simp [h1]), if_neg]
      · rfl
      · rw [← n.1, ← n.2, ← Int.natCast_mul]; omega
    have h5 : 1 * 1 ≤ NY r * NX r := Nat.mul_le_mul hy.1 hx.1
    rw [e, grid_len] at hc; omega
  · exact .inl (.inl rfl)
theorem cv3 {r : Rc} {k : Nat} (h : (k : Int) < ((tilesL r).length : Int)) (hc : areaI (meetR (ofTileR ((tilesL r).getD k ⟨0, 0⟩)) r) < 1) : False := by
  have := tiles_pos (getD_mem (z := ⟨0, 0⟩) h); unfold arT at this; omega
theorem cv0 (r : Rc) : 0 = sumT r 0 := by simp [sumT]
theorem cv4 {r : Rc} {k : Nat} (hI : k ≤ (tilesL r).length) (hn : ¬ ((tilesL r).length : Int) = 0) (hc : ((tilesL r).length : Int) ≤ (k : Int)) : sumT r k = areaI r := by
  rw [sumT, List.take_of_length_le (by omega)]
  exact tiles_sum fun h => by rw [h] at hn; simp at hn
theorem cv5 {r : Rc} {k : Nat} (h : (k : Int) < ((tilesL r).length : Int)) : IntKind.i64.wrap (sumT r k + areaI (meetR (ofTileR ((tilesL r).getD k ⟨0, 0⟩)) r)) = sumT r (k + 1) := by
  have hn : tilesL r ≠ [] := by intro h'; rw [h'] at h; simp at h; omega
  have h1 := sum_take (l := (tilesL r).map (arT r)) (fun x hx => by obtain ⟨y, _, rfl⟩ := List.mem_map.1 hx; exact areaI_nn _) k
  rw [tiles_sum hn, ← List.map_take] at h1
  have h2 := areaI_le (meetR (ofTileR ((tilesL r).getD k ⟨0, 0⟩)) r); have h3 := areaI_nn (meetR (ofTileR ((tilesL r).getD k ⟨0, 0⟩)) r); have h4 := areaI_le r
  have e : sumT r (k + 1) = sumT r k + areaI (meetR (ofTileR ((tilesL r).getD k ⟨0, 0⟩)) r) := by
    simp only [sumT, take_succ' (z := (⟨0, 0⟩ : Pt)) h, List.map_append, List.sum_append, List.map_cons, List.map_nil, List.sum_cons, List.sum_nil, arT]; omega
  rw [e, w64]
  · unfold sumT; omega
  · unfold sumT; omega
end Go.Rect

