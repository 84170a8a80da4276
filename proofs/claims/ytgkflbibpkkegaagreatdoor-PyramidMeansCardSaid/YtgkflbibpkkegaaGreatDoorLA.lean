import Derived.Test.YtgkflbibpkkegaaGreatDoorED
set_option linter.unusedSimpArgs false
set_option linter.unusedVariables false
namespace Go.Rect
open Go.Eng

structure Rc where
  x : Int
  y : Int
  w : Int
  h : Int
  deriving DecidableEq, Inhabited
structure Pt where
  x : Int
  y : Int
  deriving DecidableEq, Inhabited

def rcC (r : Rc) : List D := [.i r.x, .i r.y, .i r.w, .i r.h]
def ptC (p : Pt) : List D := [.i p.x, .i p.y]
def rcD (r : Rc) : D := .agg (rcC r)
def ptD (p : Pt) : D := .agg (ptC p)
def unRc : List D → Rc
  | [.i x, .i y, .i w, .i h] => ⟨x, y, w, h⟩
  | _ => ⟨0, 0, 0, 0⟩
def unPt : List D → Pt
  | [.i x, .i y] => ⟨x, y⟩
  | _ => ⟨0, 0⟩
theorem unRc_rcC (r : Rc) : unRc (rcC r) = r := rfl
theorem unPt_ptC (p : Pt) : unPt (ptC p) = p := rfl

def MX : Int := 1048576
def spanB (x w : Int) : Bool := decide (-1048576 ≤ x) && decide (x ≤ 1048576) && decide (0 ≤ w) && decide (w ≤ 1048576 - x)
def validB (r : Rc) : Bool := spanB r.x r.w && spanB r.y r.h
def emptyB (r : Rc) : Bool := !validB r || r.w == 0 || r.h == 0
def hasB (r : Rc) (p : Pt) : Bool := validB r && decide (r.x ≤ p.x) && decide (p.x < r.x + r.w) && decide (r.y ≤ p.y) && decide (p.y < r.y + r.h)
def withinB (a b : Rc) : Bool := emptyB a || (!emptyB b && decide (b.x ≤ a.x) && decide (a.x + a.w ≤ b.x + b.w) && decide (b.y ≤ a.y) && decide (a.y + a.h ≤ b.y + b.h))
def areaI (r : Rc) : Int := if emptyB r then 0 else r.w * r.h
def zR : Rc := ⟨0, 0, 0, 0⟩
def betweenR (x0 y0 x1 y1 : Int) : Rc :=
  if min x1 1048576 ≤ max x0 (-1048576) ∨ min y1 1048576 ≤ max y0 (-1048576) then zR
  else ⟨max x0 (-1048576), max y0 (-1048576), min x1 1048576 - max x0 (-1048576), min y1 1048576 - max y0 (-1048576)⟩
def meetR (a b : Rc) : Rc := if emptyB a || emptyB b then zR else betweenR (max a.x b.x) (max a.y b.y) (min (a.x + a.w) (b.x + b.w)) (min (a.y + a.h) (b.y + b.h))
def joinR (a b : Rc) : Rc :=
  if emptyB a && emptyB b then zR else if emptyB a then b else if emptyB b then a
  else betweenR (min a.x b.x) (min a.y b.y) (max (a.x + a.w) (b.x + b.w)) (max (a.y + a.h) (b.y + b.h))
def lim4 (n : Int) : Int := min (max n (-4194304)) 4194304
def moveR (r : Rc) (d : Pt) : Rc := if emptyB r then zR else betweenR (r.x + lim4 d.x) (r.y + lim4 d.y) (r.x + lim4 d.x + r.w) (r.y + lim4 d.y + r.h)
def growR (r : Rc) (n : Int) : Rc := if emptyB r then zR else betweenR (r.x - lim4 n) (r.y - lim4 n) (r.x + r.w + lim4 n) (r.y + r.h + lim4 n)
def ofTileR (t : Pt) : Rc := if t.x < -65536 ∨ 65536 ≤ t.x ∨ t.y < -65536 ∨ 65536 ≤ t.y then zR else ⟨t.x * 16, t.y * 16, 16, 16⟩
def tileI (x : Int) : Int := (x + 1048576) / 16 - 65536
def part0 (a m : Rc) : Rc := ⟨a.x, a.y, a.w, m.y - a.y⟩
def part1 (a m : Rc) : Rc := ⟨a.x, m.y, m.x - a.x, m.h⟩
def part2 (a m : Rc) : Rc := ⟨m.x + m.w, m.y, a.x + a.w - m.x - m.w, m.h⟩
def part3 (a m : Rc) : Rc := ⟨a.x, m.y + m.h, a.w, a.y + a.h - m.y - m.h⟩
def minusL (a b : Rc) : List Rc :=
  if emptyB a then [] else if emptyB (meetR a b) then [a]
  else [part0 a (meetR a b), part1 a (meetR a b), part2 a (meetR a b), part3 a (meetR a b)].filter fun p => !emptyB p

def sameL {α : Type} [DecidableEq α] (a b : List α) : Bool := decide (a = b)
def spanS (r : Rc) (n : Int) : Int := if emptyB r then 0 else if n = 0 then r.x else r.y
def spanE (r : Rc) (n : Int) : Int := if emptyB r then -1 else if n = 0 then r.x + r.w - 1 else r.y + r.h - 1
def ofR (x0 x1 y0 y1 : Int) : Rc := if x1 < x0 ∨ y1 < y0 then zR else ⟨x0, y0, x1 - x0 + 1, y1 - y0 + 1⟩
def worldR (x0 x1 y0 y1 : Int) : Rc := ofR (max x0 (-1048576)) (min x1 1048575) (max y0 (-1048576)) (min y1 1048575)
def lim3 (n : Int) : Int := min (max n (-3145728)) 3145728
def rowL (y x0 : Int) (n : Nat) : List Pt := (List.range n).map fun (i : Nat) => ⟨x0 + i, y⟩
def gridL (x0 y0 : Int) (n : Nat) : Nat → List Pt
  | 0 => []
  | m + 1 => gridL x0 y0 n m ++ rowL (y0 + m) x0 n
def tilesL (r : Rc) : List Pt :=
  if emptyB r then [] else
  if (tileI (r.x + r.w - 1) - tileI r.x + 1) * (tileI (r.y + r.h - 1) - tileI r.y + 1) > 4096 then [] else
  gridL (tileI r.x) (tileI r.y) (tileI (r.x + r.w - 1) - tileI r.x + 1).toNat (tileI (r.y + r.h - 1) - tileI r.y + 1).toNat

theorem eqI (a : Int) : (a = a) = True := eq_self a
theorem eqN (a : Nat) : (a = a) = True := eq_self a
theorem eqB (a : Bool) : (a = a) = True := eq_self a
theorem eqD (a : D) : (a = a) = True := eq_self a
theorem eqL1 (a : List D) : (a = a) = True := eq_self a
theorem eqL2 (a : List (List D)) : (a = a) = True := eq_self a
theorem unRcE (r : Rc) : unRc [.i r.x, .i r.y, .i r.w, .i r.h] = r := rfl
theorem unPtE (r : Pt) : unPt [.i r.x, .i r.y] = r := rfl
theorem mapRc (l : List Rc) : (l.map rcC).map unRc = l := by
  induction l with
  | nil => rfl
  | cons a l ih => simp [ih, unRc_rcC]
theorem mapPt (l : List Pt) : (l.map ptC).map unPt = l := by
  induction l with
  | nil => rfl
  | cons a l ih => simp [ih, unPt_ptC]
theorem getDRc (l : List Rc) (k : Nat) : (l.map rcC).getD k [.i 0, .i 0, .i 0, .i 0] = rcC (l.getD k zR) := by
  simp only [List.getD_eq_getElem?_getD, List.getElem?_map]
  cases l[k]? <;> rfl
theorem getDPt (l : List Pt) (k : Nat) : (l.map ptC).getD k [.i 0, .i 0] = ptC (l.getD k ⟨0, 0⟩) := by
  simp only [List.getD_eq_getElem?_getD, List.getElem?_map]
  cases l[k]? <;> rfl
theorem w64 {n : Int} (h1 : -9223372036854775808 ≤ n) (h2 : n ≤ 9223372036854775807) : IntKind.i64.wrap n = n := by
  rw [IntKind.wrap_i64]; omega

theorem w64l {k n : Nat} (h : (k : Int) < (n : Int)) (hn : n ≤ 281474976710656) : IntKind.i64.wrap ((k : Int) + 1) = ((k + 1 : Nat) : Int) := by
  rw [w64 (by omega) (by omega)]; omega
def partsL (a m : Rc) : List Rc := [part0 a m, part1 a m, part2 a m, part3 a m]
def pl (l : List Rc) (k : Nat) : List Rc := (l.take k).filter fun p => !emptyB p
theorem plRc : ∀ (l : List Rc), D.plainLL (l.map rcC) = true
  | [] => rfl
  | a :: l => by simp only [List.map_cons, D.plainLL, plRc l, rcC, D.plainL, D.plain, Bool.and_self]
theorem plPt : ∀ (l : List Pt), D.plainLL (l.map ptC) = true
  | [] => rfl
  | a :: l => by simp only [List.map_cons, D.plainLL, plPt l, ptC, D.plainL, D.plain, Bool.and_self]
theorem tkR (l : List Rc) : (l.map rcC).take l.length = l.map rcC := List.take_of_length_le (by simp)
theorem tkP (l : List Pt) : (l.map ptC).take l.length = l.map ptC := List.take_of_length_le (by simp)
end Go.Rect

set_option linter.unusedVariables false
set_option linter.unusedSectionVars false
namespace Go.Rect
open Go.Eng
theorem span_spec {x w : Int} : spanB x w = true ↔ -1048576 ≤ x ∧ x ≤ 1048576 ∧ 0 ≤ w ∧ w ≤ 1048576 - x := by
  simp only [spanB, Bool.and_eq_true, decide_eq_true_eq, and_assoc]
theorem valid_spec {r : Rc} : validB r = true ↔ (-1048576 ≤ r.x ∧ r.x ≤ 1048576 ∧ 0 ≤ r.w ∧ r.w ≤ 1048576 - r.x) ∧ (-1048576 ≤ r.y ∧ r.y ≤ 1048576 ∧ 0 ≤ r.h ∧ r.h ≤ 1048576 - r.y) := by
  simp only [validB, Bool.and_eq_true, span_spec]
theorem empty_spec {r : Rc} : emptyB r = false ↔ (-1048576 ≤ r.x ∧ r.x ≤ 1048576 ∧ 0 < r.w ∧ r.w ≤ 1048576 - r.x) ∧ (-1048576 ≤ r.y ∧ r.y ≤ 1048576 ∧ 0 < r.h ∧ r.h ≤ 1048576 - r.y) := by
  simp only [emptyB, Bool.or_eq_false_iff, Bool.not_eq_false', valid_spec, beq_eq_false_iff_ne, ne_eq]; omega
theorem empty_true {r : Rc} : emptyB r = true ↔ ¬ ((-1048576 ≤ r.x ∧ r.x ≤ 1048576 ∧ 0 < r.w ∧ r.w ≤ 1048576 - r.x) ∧ (-1048576 ≤ r.y ∧ r.y ≤ 1048576 ∧ 0 < r.h ∧ r.h ≤ 1048576 - r.y)) := by
  rw [← empty_spec]; simp
theorem fin_rv1 {r : Rc} (hc : ((r.x < -1048576 ∨ 1048576 < r.x) ∨ r.y < -1048576) ∨ 1048576 < r.y) : false = validB r := by
  symm; rw [Bool.eq_false_iff]; intro h; have := valid_spec.1 h; omega
theorem fin_rv2 {r : Rc} (hc : ((-1048576 ≤ r.x ∧ r.x ≤ 1048576) ∧ -1048576 ≤ r.y) ∧ r.y ≤ 1048576) : (decide (0 ≤ r.w) && decide (0 ≤ r.h) && decide (r.w ≤ IntKind.i64.wrap (1048576 - r.x)) && decide (r.h ≤ IntKind.i64.wrap (1048576 - r.y))) = validB r := by
  simp (disch := omega) only [w64]; rw [Bool.eq_iff_iff, valid_spec]; simp only [Bool.and_eq_true, decide_eq_true_eq]; omega
theorem ne_of {r : Rc} (h : (validB r = true ∧ ¬r.w = 0) ∧ ¬r.h = 0) : emptyB r = false := by
  have := valid_spec.1 h.1.1; rw [empty_spec]; omega
theorem fin_sp1 {r : Rc} {n : Int} (hc : (validB r = false ∨ r.w = 0) ∨ r.h = 0) : 0 = spanS r n ∧ -1 = spanE r n := by
  have : emptyB r = true := by simp only [emptyB, Bool.or_eq_true, beq_iff_eq, Bool.not_eq_true']; exact hc
  simp [spanS, spanE, this]
theorem fin_sp2 {r : Rc} {n : Int} (h : (validB r = true ∧ ¬r.w = 0) ∧ ¬r.h = 0) (hc : n = 0) : r.x = spanS r n ∧ IntKind.i64.wrap (IntKind.i64.wrap (r.x + r.w) - 1) = spanE r n := by
  have h1 := ne_of h; have h2 := empty_spec.1 h1; subst hc; simp (disch := omega) only [w64]; simp [spanS, spanE, h1]
theorem fin_sp3 {r : Rc} {n : Int} (h : (validB r = true ∧ ¬r.w = 0) ∧ ¬r.h = 0) (hc : ¬ n = 0) : r.y = spanS r n ∧ IntKind.i64.wrap (IntKind.i64.wrap (r.y + r.h) - 1) = spanE r n := by
  have h1 := ne_of h; have h2 := empty_spec.1 h1; simp (disch := omega) only [w64]; simp [spanS, spanE, h1, hc]
theorem fin_rhas {r : Rc} {p : Pt} : (decide (spanS r 0 ≤ p.x) && decide (p.x ≤ spanE r 0) && decide (spanS r 1 ≤ p.y) && decide (p.y ≤ spanE r 1)) = hasB r p := by
  rw [Bool.eq_iff_iff]; simp only [hasB, Bool.and_eq_true, decide_eq_true_eq, valid_spec]
  cases h : emptyB r
  · have := empty_spec.1 h; simp only [spanS, spanE, h]; simp; omega
  · have := empty_true.1 h; simp only [spanS, spanE, h]; simp; omega
theorem fin_w1 {a b : Rc} (hc : emptyB a = true) : true = withinB a b := by simp [withinB, hc]
theorem fin_w2 {a b : Rc} (h : emptyB a = false) (hc : emptyB b = true) : false = withinB a b := by simp [withinB, h, hc]
theorem fin_w3 {a b : Rc} (h : emptyB a = false) (hc : emptyB b = false) : (decide (b.x ≤ a.x) && decide (IntKind.i64.wrap (a.x + a.w) ≤ IntKind.i64.wrap (b.x + b.w)) && decide (b.y ≤ a.y) && decide (IntKind.i64.wrap (a.y + a.h) ≤ IntKind.i64.wrap (b.y + b.h))) = withinB a b := by
  have := empty_spec.1 h; have := empty_spec.1 hc; simp (disch := omega) only [w64]; simp [withinB, h, hc]
theorem fin_rw {a b : Rc} (h : emptyB a = false) : (hasB b ⟨spanS a 0, spanS a 1⟩ && hasB b ⟨spanE a 0, spanE a 1⟩) = withinB a b := by
  have h1 := empty_spec.1 h
  simp only [spanS, spanE, h]
  rw [Bool.eq_iff_iff]
  cases hb : emptyB b
  · have h2 := empty_spec.1 hb
    simp only [withinB, h, hb, hasB, Bool.and_eq_true, decide_eq_true_eq, valid_spec, Bool.false_or, Bool.not_false, Bool.true_and]; simp; omega
  · have h2 := empty_true.1 hb
    simp only [withinB, h, hb, hasB, Bool.and_eq_true, decide_eq_true_eq, valid_spec, Bool.false_or, Bool.not_true, Bool.false_and]; simp; omega
theorem fe {r r' : Rc} (h : r = r') : r.x = r'.x ∧ r.y = r'.y ∧ r.w = r'.w ∧ r.h = r'.h := by subst h; exact ⟨rfl, rfl, rfl, rfl⟩
theorem Rc.ext' {r r' : Rc} (h : r.x = r'.x ∧ r.y = r'.y ∧ r.w = r'.w ∧ r.h = r'.h) : r = r' := by
  cases r; cases r'; simpa using h
theorem fin_b1 {x0 y0 x1 y1 : Int} (hc : min x1 1048576 ≤ max x0 (-1048576) ∨ min y1 1048576 ≤ max y0 (-1048576)) : zR = betweenR x0 y0 x1 y1 := by rw [betweenR, if_pos hc]
theorem fin_b2 {x0 y0 x1 y1 : Int} (hc : max x0 (-1048576) < min x1 1048576 ∧ max y0 (-1048576) < min y1 1048576) :
    (⟨max x0 (-1048576), max y0 (-1048576), IntKind.i64.wrap (min x1 1048576 - max x0 (-1048576)), IntKind.i64.wrap (min y1 1048576 - max y0 (-1048576))⟩ : Rc) = betweenR x0 y0 x1 y1 := by
  rw [betweenR, if_neg (by omega), w64 (by omega) (by omega), w64 (by omega) (by omega)]
theorem fin_o1 {x0 x1 y0 y1 : Int} (hc : x1 < x0 ∨ y1 < y0) : zR = ofR x0 x1 y0 y1 := by rw [ofR, if_pos hc]
theorem fin_o2 {x0 x1 y0 y1 : Int} (h1 : -4611686018427387904 ≤ x0) (h2 : x1 ≤ 4611686018427387900) (h3 : -4611686018427387904 ≤ y0) (h4 : y1 ≤ 4611686018427387900) (hc : x0 ≤ x1 ∧ y0 ≤ y1) :
    (⟨x0, y0, IntKind.i64.wrap (IntKind.i64.wrap (x1 - x0) + 1), IntKind.i64.wrap (IntKind.i64.wrap (y1 - y0) + 1)⟩ : Rc) = ofR x0 x1 y0 y1 := by
  rw [ofR, if_neg (by omega), w64 (n := x1 - x0) (by omega) (by omega), w64 (n := y1 - y0) (by omega) (by omega), w64 (by omega) (by omega), w64 (by omega) (by omega)]
theorem sp_bd (r : Rc) (n : Int) : -1048576 ≤ spanS r n ∧ spanS r n ≤ 1048576 ∧ -1048577 ≤ spanE r n ∧ spanE r n ≤ 1048576 := by
  unfold spanS spanE
  cases h : emptyB r
  · have := empty_spec.1 h; simp only [Bool.false_eq_true, if_false]; split <;> omega
  · simp
theorem sp_ne {r : Rc} (h : emptyB r = false) : spanS r 0 = r.x ∧ spanE r 0 = r.x + r.w - 1 ∧ spanS r 1 = r.y ∧ spanE r 1 = r.y + r.h - 1 := by simp [spanS, spanE, h]
theorem fin_m1 {a b : Rc} (hc : emptyB a = true ∨ emptyB b = true) : zR = meetR a b := by rw [meetR, if_pos (by simpa using hc)]
theorem fin_m2 {a b : Rc} (hc : emptyB a = false ∧ emptyB b = false) : betweenR (max a.x b.x) (max a.y b.y) (min (IntKind.i64.wrap (a.x + a.w)) (IntKind.i64.wrap (b.x + b.w))) (min (IntKind.i64.wrap (a.y + a.h)) (IntKind.i64.wrap (b.y + b.h))) = meetR a b := by
  have := empty_spec.1 hc.1; have := empty_spec.1 hc.2
  simp (disch := omega) only [w64]; rw [meetR, if_neg (by simp [hc])]
theorem fin_m3 {a b : Rc} (hc : emptyB a = false ∧ emptyB b = false) : ofR (max (spanS a 0) (spanS b 0)) (min (spanE a 0) (spanE b 0)) (max (spanS a 1) (spanS b 1)) (min (spanE a 1) (spanE b 1)) = meetR a b := by
  have h1 := empty_spec.1 hc.1; have h2 := empty_spec.1 hc.2
  obtain ⟨e1, e2, e3, e4⟩ := sp_ne hc.1; obtain ⟨f1, f2, f3, f4⟩ := sp_ne hc.2
  rw [meetR, if_neg (by simp [hc]), e1, e2, e3, e4, f1, f2, f3, f4, ofR, betweenR]
  split
  · rw [if_pos (by omega)]
  · rw [if_neg (by omega)]; apply Rc.ext'; simp only; omega
theorem fin_ot1 {p : Pt} (hc : ((p.x < -65536 ∨ 65536 ≤ p.x) ∨ p.y < -65536) ∨ 65536 ≤ p.y) : zR = ofTileR p := by rw [ofTileR, if_pos (by omega)]
theorem fin_ot2 {p : Pt} (hc : ((-65536 ≤ p.x ∧ p.x < 65536) ∧ -65536 ≤ p.y) ∧ p.y < 65536) : (⟨IntKind.i64.wrap (p.x * 16), IntKind.i64.wrap (p.y * 16), 16, 16⟩ : Rc) = ofTileR p := by
  simp (disch := omega) only [w64]; rw [ofTileR, if_neg (by omega)]
theorem wm : IntKind.i64.wrap (0 - 65536) = -65536 := w64 (by omega) (by omega)

section
variable {α : Type} [DecidableEq α] {a b : List α}
end
theorem Pt.ext' {r r' : Pt} (h : r.x = r'.x ∧ r.y = r'.y) : r = r' := by cases r; cases r'; simpa using h

theorem w4 {k : Nat} (h : (k : Int) < 1000000) : IntKind.i64.wrap ((k : Int) + 1) = ((k + 1 : Nat) : Int) := by rw [w64 (by omega) (by omega)]; omega
section
variable {a b : Rc} {L : List Rc} {k : Nat}
def partsO (a m : Rc) : List Rc := [ofR a.x (a.x + a.w - 1) a.y (m.y - 1), ofR a.x (m.x - 1) m.y (m.y + m.h - 1), ofR (m.x + m.w) (a.x + a.w - 1) m.y (m.y + m.h - 1), ofR a.x (a.x + a.w - 1) (m.y + m.h) (a.y + a.h - 1)]
end
def NX (r : Rc) : Nat := (tileI (r.x + r.w - 1) - tileI r.x + 1).toNat
def NY (r : Rc) : Nat := (tileI (r.y + r.h - 1) - tileI r.y + 1).toNat
theorem tile_bd {x : Int} (h1 : -1048576 ≤ x) (h2 : x ≤ 1048576) : -65536 ≤ tileI x ∧ tileI x ≤ 65536 := by unfold tileI; omega
theorem tile_mono {x y : Int} (h : x ≤ y) : tileI x ≤ tileI y := by unfold tileI; omega
structure TB (r : Rc) : Prop where
  x0 : -65536 ≤ tileI r.x
  x1 : tileI (r.x + r.w - 1) ≤ 65536
  y0 : -65536 ≤ tileI r.y
  y1 : tileI (r.y + r.h - 1) ≤ 65536
  xx : tileI r.x ≤ tileI (r.x + r.w - 1)
  yy : tileI r.y ≤ tileI (r.y + r.h - 1)
theorem TB.of {r : Rc} (h : emptyB r = false) : TB r := by
  have := empty_spec.1 h
  exact ⟨(tile_bd (by omega) (by omega)).1, (tile_bd (by omega) (by omega)).2, (tile_bd (by omega) (by omega)).1, (tile_bd (by omega) (by omega)).2, tile_mono (by omega), tile_mono (by omega)⟩
def gr (r : Rc) (j : Nat) : List Pt := gridL (tileI r.x) (tileI r.y) (NX r) j
def gri (r : Rc) (j i : Nat) : List Pt := gr r j ++ rowL (tileI r.y + j) (tileI r.x) i
section
variable {r : Rc} {i j : Nat}
end

end Go.Rect

namespace Go.Rect
open Go.Eng
def canB (r : Rc) : Prop := emptyB r = true → r = zR
theorem within_spec {a b : Rc} : withinB a b = true ↔ emptyB a = true ∨ (emptyB b = false ∧ b.x ≤ a.x ∧ a.x + a.w ≤ b.x + b.w ∧ b.y ≤ a.y ∧ a.y + a.h ≤ b.y + b.h) := by
  simp only [withinB, Bool.or_eq_true, Bool.and_eq_true, Bool.not_eq_true', decide_eq_true_eq, and_assoc]
def sumK (a b : Rc) (k : Nat) : Int := areaI (meetR a b) + (((minusL a b).take k).map areaI).sum

theorem getD_mem {α : Type} {l : List α} {k : Nat} {z : α} (h : (k : Int) < (l.length : Int)) : l.getD k z ∈ l := by
  have h : k < l.length := by omega
  rw [List.getD_eq_getElem?_getD, List.getElem?_eq_getElem h]; exact List.getElem_mem h
theorem take_succ' {α : Type} {l : List α} {k : Nat} {z : α} (h : (k : Int) < (l.length : Int)) : l.take (k + 1) = l.take k ++ [l.getD k z] := by
  have h : k < l.length := by omega
  rw [List.take_add_one, List.getD_eq_getElem?_getD, List.getElem?_eq_getElem h]; rfl
def arT (r : Rc) (t : Pt) : Int := areaI (meetR (ofTileR t) r)
def sumT (r : Rc) (k : Nat) : Int := (((tilesL r).take k).map (arT r)).sum
def ov (x w t : Int) : Int := min (16 * t + 16) (x + w) - max (16 * t) x
def pre (x w : Int) (n : Nat) : Int := max 0 (min (16 * (tileI x + n)) (x + w) - x)
end Go.Rect

namespace Go.Rect
open Go.Eng
structure Px where
  r : Int
  g : Int
  b : Int
  a : Int
  deriving DecidableEq, Inhabited
def zP : Px := ⟨0, 0, 0, 0⟩
def pxC (p : Px) : List D := [.i p.r, .i p.g, .i p.b, .i p.a]
def pxD (p : Px) : D := .agg (pxC p)
def unPx : List D → Px
  | [.i x, .i y, .i w, .i h] => ⟨x, y, w, h⟩
  | _ => ⟨0, 0, 0, 0⟩
theorem unPxE (p : Px) : unPx [.i p.r, .i p.g, .i p.b, .i p.a] = p := rfl
theorem unPx_pxC (p : Px) : unPx (pxC p) = p := rfl
theorem mapPx (l : List Px) : (l.map pxC).map unPx = l := by
  induction l with
  | nil => rfl
  | cons a l ih => simp [ih, unPx_pxC]
theorem getDPx (l : List Px) (k : Nat) : (l.map pxC).getD k [.i 0, .i 0, .i 0, .i 0] = pxC (l.getD k zP) := by
  simp only [List.getD_eq_getElem?_getD, List.getElem?_map]
  cases l[k]? <;> rfl
def iC (n : Int) : List D := [.i n]
def unI : List D → Int
  | [.i n] => n
  | _ => 0
theorem mapI (l : List Int) : (l.map iC).map unI = l := by
  induction l with
  | nil => rfl
  | cons a l ih => simp [ih, iC, unI]
theorem getDI (l : List Int) (k : Nat) : (l.map iC).getD k [.i 0] = [.i (l.getD k 0)] := by
  simp only [List.getD_eq_getElem?_getD, List.getElem?_map]
  cases l[k]? <;> rfl
theorem setI (l : List Int) (k : Nat) (n : Int) : (l.map iC).set k [.i n] = (l.set k n).map iC := by rw [List.map_set]; rfl
theorem setPx (l : List Px) (k : Nat) (p : Px) : (l.map pxC).set k [.i p.r, .i p.g, .i p.b, .i p.a] = (l.set k p).map pxC := by rw [List.map_set]; rfl
theorem plI : ∀ (l : List Int), D.plainLL (l.map iC) = true
  | [] => rfl
  | a :: l => by simp only [List.map_cons, D.plainLL, plI l, iC, D.plainL, D.plain, Bool.and_self]
theorem plPx : ∀ (l : List Px), D.plainLL (l.map pxC) = true
  | [] => rfl
  | a :: l => by simp only [List.map_cons, D.plainLL, plPx l, pxC, D.plainL, D.plain, Bool.and_self]
theorem repI (n : Nat) : List.replicate n [D.i 0] = (List.replicate n (0 : Int)).map iC := by simp [iC]
theorem repPx (n : Nat) : List.replicate n [D.i 0, .i 0, .i 0, .i 0] = (List.replicate n zP).map pxC := by simp [pxC, zP]
theorem tkI (l : List Int) : (l.map iC).take l.length = l.map iC := List.take_of_length_le (by simp)
theorem tkPx (l : List Px) : (l.map pxC).take l.length = l.map pxC := List.take_of_length_le (by simp)
def plyD (p : List Pt) : D := .sl 2 (p.map ptC)
def plyC (p : List Pt) : List D := [plyD p]
def unPly : List D → List Pt
  | [.sl _ l] => l.map unPt
  | _ => []
theorem toN0 : Int.toNat 0 = 0 := rfl
def floorI (a b : Int) : Int := if b = 0 then 0 else if a = -9223372036854775808 ∧ b = -1 then 9223372036854775807 else a.fdiv b
def divI (a b : Int) : Int := (2 * a + b) / (2 * b)
def unitI (x : Int) : Int := min 65535 (max x 0)
def mulI (a b : Int) : Int := divI (unitI a * unitI b) 65535
def clampI (x lo hi : Int) : Int := min hi (max x lo)
def absU (a : Int) : Int := if a < 0 then -a else a
def limP (p : Px) : Px := ⟨unitI p.r, unitI p.g, unitI p.b, unitI p.a⟩
def validP (p : Px) : Bool := decide (limP p = p)
def fadeP (p : Px) (a : Int) : Px := if mulI (unitI p.a) a = 0 then zP else ⟨unitI p.r, unitI p.g, unitI p.b, mulI (unitI p.a) a⟩
def ptOk (p : Pt) : Bool := decide (-16777216 ≤ p.x) && decide (p.x ≤ 16777216) && decide (-16777216 ≤ p.y) && decide (p.y ≤ 16777216)
def total (ps : List (List Pt)) : Nat := (ps.map List.length).sum
def checkE (ps : List (List Pt)) (rule : Int) : Int :=
  if rule ≠ 0 ∧ rule ≠ 1 then 8 else if 4096 < total ps then 3 else if ps.all (fun p => p.all ptOk) then 0 else 2
def nxt (p : List Pt) (k : Nat) : Pt := p.getD ((k + 1) % p.length) ⟨0, 0⟩
def crossP (a b : Pt) : Int := a.x * b.y - b.x * a.y
def twiceK (p : List Pt) (k : Nat) : Int := ((List.range k).map fun i => crossP (p.getD i ⟨0, 0⟩) (nxt p i)).sum
def twiceI (p : List Pt) : Int := if checkE [p] 0 = 0 then twiceK p p.length else 0
end Go.Rect

set_option linter.unusedSimpArgs false
set_option linter.unusedVariables false
namespace Go.Rect
open Go.Eng
theorem tmod_np {a : Int} (b : Int) (h : a ≤ 0) : a.tmod b ≤ 0 := by
  have := Int.tmod_nonneg b (a := -a) (by omega)
  rw [Int.neg_tmod] at this; omega
theorem tdiv_np {a b : Int} (h : a ≤ 0) (hb : 0 ≤ b) : a.tdiv b ≤ 0 := by
  have := Int.tdiv_nonneg (a := -a) (b := b) (by omega) hb
  rw [Int.neg_tdiv] at this; omega
theorem tdiv_bd (a b : Int) (h1 : -9223372036854775808 ≤ a) (h2 : a ≤ 9223372036854775807) : -9223372036854775808 ≤ a.tdiv b ∧ a.tdiv b ≤ 9223372036854775808 := by
  have := Int.natAbs_tdiv_le_natAbs a b; omega
theorem fl1 {a b : Int} (hc : b = 0) : 0 = floorI a b := by simp [floorI, hc]
theorem fl2 {a b : Int} (hb : ¬ b = 0) (hc : a = -9223372036854775808 ∧ b = -1) : 9223372036854775807 = floorI a b := by rw [floorI, if_neg hb, if_pos hc]
theorem tmod0 {a b : Int} : b ∣ a ↔ a.tmod b = 0 := Int.dvd_iff_tmod_eq_zero
theorem floor_ne {a b : Int} (hb : ¬ b = 0) (hm : (a == -9223372036854775808 && b == -1) = false) : floorI a b = a.tdiv b - (if b ∣ a then 0 else if 0 ≤ a then (if 0 ≤ b then 0 else 1) else (if 0 ≤ b then 1 else 0)) := by
  have hm' : ¬ (a = -9223372036854775808 ∧ b = -1) := by intro h; simp [h.1, h.2] at hm
  rw [floorI, if_neg hb, if_neg hm', Int.fdiv_eq_tdiv]
  by_cases h : 0 ≤ b
  · have : b.sign = 1 := Int.sign_eq_one_iff_pos.2 (by omega)
    simp [h, this]
  · have : b.sign = -1 := Int.sign_eq_neg_one_iff_neg.2 (by omega)
    simp [h, this]
theorem tdiv_lt {a b : Int} (h1 : -9223372036854775808 ≤ a) (h2 : a ≤ 9223372036854775807) (hb : ¬ b = 0) (hm : (a == -9223372036854775808 && b == -1) = false) : a.tdiv b ≤ 9223372036854775807 := by
  have hm' : ¬ (a = -9223372036854775808 ∧ b = -1) := by intro h; simp [h.1, h.2] at hm
  have h := Int.natAbs_tdiv_le_natAbs a b
  by_cases ha : a = -9223372036854775808
  · have hb1 : ¬ b = -1 := fun h => hm' ⟨ha, h⟩
    by_cases hb2 : 0 ≤ b
    · have : a.tdiv b ≤ 0 := tdiv_np (by omega) hb2
      omega
    · have h3 : b ≤ -2 := by omega
      have h4 := Int.mul_tdiv_add_tmod a b
      have h5 : a.tmod b ≤ 0 := tmod_np b (by omega)
      generalize a.tdiv b = q at *
      have h7 : 9223372036854775808 ≤ q ∨ q ≤ 9223372036854775807 := by omega
      rcases h7 with h7 | h7
      · exfalso
        have : b * q ≤ -2 * q := Int.mul_le_mul_of_nonneg_right h3 (by omega)
        have h8 : -b < a.tmod b ∨ a.tmod b ≤ -b := by omega
        have h9 : -a.tmod b < -b := by
          have := Int.tmod_lt_of_pos (-a) (b := -b) (by omega)
          rw [Int.tmod_neg, Int.neg_tmod] at this; omega
        have h10 : b * q + (b + 1) ≤ a := by omega
        have h11 : b * (q + 1) = b * q + b := by rw [Int.mul_add]; omega
        have : b * (q + 1) ≤ -2 * (q + 1) := Int.mul_le_mul_of_nonneg_right h3 (by omega)
        omega
      · exact h7
  · omega
theorem fl3 {a b : Int} (h1 : -9223372036854775808 ≤ a) (h2 : a ≤ 9223372036854775807) (hb : ¬ b = 0) (hm : (a == -9223372036854775808 && b == -1) = false) (hc : ¬ a.tmod b = 0 ∧ ¬ decide (a < 0) = decide (b < 0)) :
    IntKind.i64.wrap (IntKind.i64.wrap (a.tdiv b) - 1) = floorI a b := by
  have h3 := tdiv_bd a b h1 h2; have h4 := tdiv_lt h1 h2 hb hm
  have hn : ¬ b ∣ a := fun h => hc.1 (tmod0.1 h)
  rw [floor_ne hb hm, if_neg hn, w64 (n := a.tdiv b) (by omega) (by omega)]
  have hd := hc.2
  by_cases ha : 0 ≤ a
  · have hb' : ¬ 0 ≤ b := by
      intro h; apply hd; rw [decide_eq_false (by omega : ¬ a < 0), decide_eq_false (by omega : ¬ b < 0)]
    rw [if_pos ha, if_neg hb']
    have : a.tdiv b ≠ -9223372036854775808 := by
      intro h
      have h5 := Int.natAbs_tdiv_le_natAbs a b
      omega
    rw [w64 (by omega) (by omega)]
  · have hb' : 0 ≤ b := by
      by_cases h : 0 ≤ b
      · exact h
      · exfalso; apply hd
        rw [decide_eq_true (by omega : a < 0), decide_eq_true (by omega : b < 0)]
    rw [if_neg ha, if_pos hb']
    have : a.tdiv b ≠ -9223372036854775808 := by
      intro h
      have h5 := Int.natAbs_tdiv_le_natAbs a b
      have ha' : a = -9223372036854775808 := by omega
      have h6 := Int.mul_tdiv_add_tmod a b
      have h7 : a.tmod b ≤ 0 := tmod_np b (by omega)
      rw [h, ha'] at h6
      have h8 : ¬ b = 1 := by rintro rfl; exact hn (Int.one_dvd a)
      rw [ha'] at h7
      omega
    rw [w64 (by omega) (by omega)]
theorem fl4 {a b : Int} (h1 : -9223372036854775808 ≤ a) (h2 : a ≤ 9223372036854775807) (hb : ¬ b = 0) (hm : (a == -9223372036854775808 && b == -1) = false) (hc : (a.tmod b != 0 && !decide (a < 0) == decide (b < 0)) = false) :
    IntKind.i64.wrap (a.tdiv b) = floorI a b := by
  have h3 := tdiv_bd a b h1 h2; have h4 := tdiv_lt h1 h2 hb hm
  rw [floor_ne hb hm, w64 (by omega) (by omega)]
  by_cases hd : b ∣ a
  · simp [hd]
  · have hn : a.tmod b ≠ 0 := fun h => hd (tmod0.2 h)
    simp only [Bool.and_eq_false_iff, bne_eq_false_iff_eq, hn, false_or] at hc
    rw [if_neg hd]
    by_cases ha : 0 ≤ a
    · by_cases hb' : 0 ≤ b
      · simp [ha, hb']
      · exfalso; rw [decide_eq_false (by omega : ¬ a < 0), decide_eq_true (by omega : b < 0)] at hc; simp at hc
    · by_cases hb' : 0 ≤ b
      · exfalso; rw [decide_eq_true (by omega : a < 0), decide_eq_false (by omega : ¬ b < 0)] at hc; simp at hc
      · simp [ha, hb']
theorem tmod_neg_iff {a b : Int} (h : ¬ a.tmod b = 0) : decide (a.tmod b < 0) = decide (a < 0) := by
  by_cases ha : 0 ≤ a
  · have := Int.tmod_nonneg b ha
    rw [decide_eq_false (by omega), decide_eq_false (by omega)]
  · have := tmod_np b (a := a) (by omega)
    rw [decide_eq_true (by omega), decide_eq_true (by omega)]
theorem fl5 {a b : Int} (h1 : -9223372036854775808 ≤ a) (h2 : a ≤ 9223372036854775807) (hb : ¬ b = 0) (hm : (a == -9223372036854775808 && b == -1) = false) (hc : ¬ a.tmod b = 0 ∧ ¬ decide (a.tmod b < 0) = decide (b < 0)) :
    IntKind.i64.wrap (IntKind.i64.wrap (a.tdiv b) - 1) = floorI a b := fl3 h1 h2 hb hm ⟨hc.1, by rw [← tmod_neg_iff hc.1]; exact hc.2⟩
theorem fl6 {a b : Int} (h1 : -9223372036854775808 ≤ a) (h2 : a ≤ 9223372036854775807) (hb : ¬ b = 0) (hm : (a == -9223372036854775808 && b == -1) = false) (hc : (a.tmod b != 0 && !decide (a.tmod b < 0) == decide (b < 0)) = false) :
    IntKind.i64.wrap (a.tdiv b) = floorI a b := by
  by_cases h : a.tmod b = 0
  · exact fl4 h1 h2 hb hm (by simp [h])
  · rw [tmod_neg_iff h] at hc; exact fl4 h1 h2 hb hm hc
theorem floor_pos {a b : Int} (h : 0 < b) : floorI a b = a / b := by
  rw [floorI, if_neg (by omega), if_neg (by omega), Int.fdiv_eq_ediv_of_nonneg a (by omega)]
theorem div_cases {a b : Int} (h : 0 < b) : (b - (a - b * (a / b)) ≤ a - b * (a / b) ∧ divI a b = a / b + 1) ∨ (a - b * (a / b) < b - (a - b * (a / b)) ∧ divI a b = a / b) := by
  have h1 := Int.mul_ediv_add_emod a b; have h2 := Int.emod_nonneg a (show b ≠ 0 by omega); have h3 := Int.emod_lt_of_pos a h
  unfold divI
  generalize hq : a / b = q at *
  generalize hr : a % b = r at *
  have e : a - b * q = r := by omega
  rw [e]
  by_cases hc : b - r ≤ r
  · left; refine ⟨hc, ?_⟩
    rw [Int.ediv_eq_iff_of_pos (by omega)]
    have : (q + 1) * (2 * b) = 2 * (b * q) + 2 * b := by rw [Int.add_mul, Int.mul_comm q, Int.mul_assoc]; omega
    constructor <;> omega
  · right; refine ⟨by omega, ?_⟩
    rw [Int.ediv_eq_iff_of_pos (by omega)]
    have : q * (2 * b) = 2 * (b * q) := by rw [Int.mul_comm q, Int.mul_assoc]
    constructor <;> omega
theorem u64 {n : Int} (h1 : 0 ≤ n) (h2 : n ≤ 18446744073709551615) : IntKind.u64.wrap n = n := by
  rw [IntKind.wrap_u64]; omega
theorem ab1 {a : Int} (h1 : -9223372036854775808 < a) (hc : a < 0) : Value.int IntKind.u64 (IntKind.u64.wrap (0 - IntKind.u64.wrap a)) = Value.int IntKind.u64 (absU a) := by
  congr 1; rw [absU, if_pos hc]; simp only [IntKind.wrap_u64]; omega
theorem ab2 {a : Int} (h2 : a ≤ 9223372036854775807) (hc : 0 ≤ a) : Value.int IntKind.u64 (IntKind.u64.wrap a) = Value.int IntKind.u64 (absU a) := by
  congr 1; rw [absU, if_neg (by omega)]; exact u64 hc (by omega)
theorem absU_bd {a : Int} (h : 0 ≤ a) : absU a = a := by rw [absU, if_neg (by omega)]
theorem unit_bd (a : Int) : 0 ≤ unitI a ∧ unitI a ≤ 65535 := by unfold unitI; omega
theorem Px.ext' {p q : Px} (h : p.r = q.r ∧ p.g = q.g ∧ p.b = q.b ∧ p.a = q.a) : p = q := by
  cases p; cases q; simpa using h
theorem pe {p q : Px} (h : p = q) : p.r = q.r ∧ p.g = q.g ∧ p.b = q.b ∧ p.a = q.a := by subst h; exact ⟨rfl, rfl, rfl, rfl⟩
theorem vp1 (p : Px) : (p.r == (limP p).r && (p.g == (limP p).g && (p.b == (limP p).b && p.a == (limP p).a))) = validP p := by
  rw [Bool.eq_iff_iff]; simp only [validP, Bool.and_eq_true, beq_iff_eq, decide_eq_true_eq]
  constructor
  · intro h; exact Px.ext' (by omega)
  · intro h; have := pe h; omega
theorem vp2 (p : Px) : ((limP p).r == p.r && ((limP p).g == p.g && ((limP p).b == p.b && (limP p).a == p.a))) = validP p := by
  rw [Bool.eq_iff_iff]; simp only [validP, Bool.and_eq_true, beq_iff_eq, decide_eq_true_eq]
  constructor
  · intro h; exact Px.ext' (by omega)
  · intro h; have := pe h; omega
end Go.Rect

namespace Go.Rect
open Go.Eng
end Go.Rect

