import Derived.Test.YtdillkdhpalgcaaGreatED
set_option linter.unusedSimpArgs false
set_option linter.unusedVariables false
namespace Go.Rect
open Go.Eng

structure Rc where
  x : Int
  y : Int
  w : Int
  h : Int
  deriving DecidableEq, Inhabited
structure Pt where
  x : Int
  y : Int
  deriving DecidableEq, Inhabited

def rcC (r : Rc) : List D := [.i r.x, .i r.y, .i r.w, .i r.h]
def ptC (p : Pt) : List D := [.i p.x, .i p.y]
def rcD (r : Rc) : D := .agg (rcC r)
def ptD (p : Pt) : D := .agg (ptC p)
def unRc : List D → Rc
  | [.i x, .i y, .i w, .i h] => ⟨x, y, w, h⟩
  | _ => ⟨0, 0, 0, 0⟩
def unPt : List D → Pt
  | [.i x, .i y] => ⟨x, y⟩
  | _ => ⟨0, 0⟩
theorem unRc_rcC (r : Rc) : unRc (rcC r) = r := rfl
theorem unPt_ptC (p : Pt) : unPt (ptC p) = p := rfl

def MX : Int := 1048576
def spanB (x w : Int) : Bool := decide (-1048576 ≤ x) && decide (x ≤ 1048576) && decide (0 ≤ w) && decide (w ≤ 1048576 - x)
def validB (r : Rc) : Bool := spanB r.x r.w && spanB r.y r.h
def emptyB (r : Rc) : Bool := !validB r || r.w == 0 || r.h == 0
def hasB (r : Rc) (p : Pt) : Bool := validB r && decide (r.x ≤ p.x) && decide (p.x < r.x + r.w) && decide (r.y ≤ p.y) && decide (p.y < r.y + r.h)
def withinB (a b : Rc) : Bool := emptyB a || (!emptyB b && decide (b.x ≤ a.x) && decide (a.x + a.w ≤ b.x + b.w) && decide (b.y ≤ a.y) && decide (a.y + a.h ≤ b.y + b.h))
def areaI (r : Rc) : Int := if emptyB r then 0 else r.w * r.h
def zR : Rc := ⟨0, 0, 0, 0⟩
def betweenR (x0 y0 x1 y1 : Int) : Rc :=
  if min x1 1048576 ≤ max x0 (-1048576) ∨ min y1 1048576 ≤ max y0 (-1048576) then zR
  else ⟨max x0 (-1048576), max y0 (-1048576), min x1 1048576 - max x0 (-1048576), min y1 1048576 - max y0 (-1048576)⟩
def meetR (a b : Rc) : Rc := if emptyB a || emptyB b then zR else betweenR (max a.x b.x) (max a.y b.y) (min (a.x + a.w) (b.x + b.w)) (min (a.y + a.h) (b.y + b.h))
def joinR (a b : Rc) : Rc :=
  if emptyB a && emptyB b then zR else if emptyB a then b else if emptyB b then a
  else betweenR (min a.x b.x) (min a.y b.y) (max (a.x + a.w) (b.x + b.w)) (max (a.y + a.h) (b.y + b.h))
def lim4 (n : Int) : Int := min (max n (-4194304)) 4194304
def moveR (r : Rc) (d : Pt) : Rc := if emptyB r then zR else betweenR (r.x + lim4 d.x) (r.y + lim4 d.y) (r.x + lim4 d.x + r.w) (r.y + lim4 d.y + r.h)
def growR (r : Rc) (n : Int) : Rc := if emptyB r then zR else betweenR (r.x - lim4 n) (r.y - lim4 n) (r.x + r.w + lim4 n) (r.y + r.h + lim4 n)
def ofTileR (t : Pt) : Rc := if t.x < -65536 ∨ 65536 ≤ t.x ∨ t.y < -65536 ∨ 65536 ≤ t.y then zR else ⟨t.x * 16, t.y * 16, 16, 16⟩
def tileI (x : Int) : Int := (x + 1048576) / 16 - 65536
def part0 (a m : Rc) : Rc := ⟨a.x, a.y, a.w, m.y - a.y⟩
def part1 (a m : Rc) : Rc := ⟨a.x, m.y, m.x - a.x, m.h⟩
def part2 (a m : Rc) : Rc := ⟨m.x + m.w, m.y, a.x + a.w - m.x - m.w, m.h⟩
def part3 (a m : Rc) : Rc := ⟨a.x, m.y + m.h, a.w, a.y + a.h - m.y - m.h⟩
def minusL (a b : Rc) : List Rc :=
  if emptyB a then [] else if emptyB (meetR a b) then [a]
  else [part0 a (meetR a b), part1 a (meetR a b), part2 a (meetR a b), part3 a (meetR a b)].filter fun p => !emptyB p

def sameL {α : Type} [DecidableEq α] (a b : List α) : Bool := decide (a = b)
def spanS (r : Rc) (n : Int) : Int := if emptyB r then 0 else if n = 0 then r.x else r.y
def spanE (r : Rc) (n : Int) : Int := if emptyB r then -1 else if n = 0 then r.x + r.w - 1 else r.y + r.h - 1
def ofR (x0 x1 y0 y1 : Int) : Rc := if x1 < x0 ∨ y1 < y0 then zR else ⟨x0, y0, x1 - x0 + 1, y1 - y0 + 1⟩
def worldR (x0 x1 y0 y1 : Int) : Rc := ofR (max x0 (-1048576)) (min x1 1048575) (max y0 (-1048576)) (min y1 1048575)
def lim3 (n : Int) : Int := min (max n (-3145728)) 3145728
def rowL (y x0 : Int) (n : Nat) : List Pt := (List.range n).map fun (i : Nat) => ⟨x0 + i, y⟩
def gridL (x0 y0 : Int) (n : Nat) : Nat → List Pt
  | 0 => []
  | m + 1 => gridL x0 y0 n m ++ rowL (y0 + m) x0 n
def tilesL (r : Rc) : List Pt :=
  if emptyB r then [] else
  if (tileI (r.x + r.w - 1) - tileI r.x + 1) * (tileI (r.y + r.h - 1) - tileI r.y + 1) > 4096 then [] else
  gridL (tileI r.x) (tileI r.y) (tileI (r.x + r.w - 1) - tileI r.x + 1).toNat (tileI (r.y + r.h - 1) - tileI r.y + 1).toNat

theorem eqI (a : Int) : (a = a) = True := eq_self a
theorem eqN (a : Nat) : (a = a) = True := eq_self a
theorem eqB (a : Bool) : (a = a) = True := eq_self a
theorem eqD (a : D) : (a = a) = True := eq_self a
theorem eqL1 (a : List D) : (a = a) = True := eq_self a
theorem eqL2 (a : List (List D)) : (a = a) = True := eq_self a
theorem mapRc (l : List Rc) : (l.map rcC).map unRc = l := by
  induction l with
  | nil => rfl
  | cons a l ih => simp [ih, unRc_rcC]
theorem mapPt (l : List Pt) : (l.map ptC).map unPt = l := by
  induction l with
  | nil => rfl
  | cons a l ih => simp [ih, unPt_ptC]
theorem getDRc (l : List Rc) (k : Nat) : (l.map rcC).getD k [.i 0, .i 0, .i 0, .i 0] = rcC (l.getD k zR) := by
  simp only [List.getD_eq_getElem?_getD, List.getElem?_map]
  cases l[k]? <;> rfl
theorem getDPt (l : List Pt) (k : Nat) : (l.map ptC).getD k [.i 0, .i 0] = ptC (l.getD k ⟨0, 0⟩) := by
  simp only [List.getD_eq_getElem?_getD, List.getElem?_map]
  cases l[k]? <;> rfl
theorem w64 {n : Int} (h1 : -9223372036854775808 ≤ n) (h2 : n ≤ 9223372036854775807) : IntKind.i64.wrap n = n := by
  rw [IntKind.wrap_i64]; omega

theorem w64l {k n : Nat} (h : (k : Int) < (n : Int)) (hn : n ≤ 281474976710656) : IntKind.i64.wrap ((k : Int) + 1) = ((k + 1 : Nat) : Int) := by
  rw [w64 (by omega) (by omega)]; omega
def partsL (a m : Rc) : List Rc := [part0 a m, part1 a m, part2 a m, part3 a m]
def pl (l : List Rc) (k : Nat) : List Rc := (l.take k).filter fun p => !emptyB p
theorem plRc : ∀ (l : List Rc), D.plainLL (l.map rcC) = true
  | [] => rfl
  | a :: l => by simp only [List.map_cons, D.plainLL, plRc l, rcC, D.plainL, D.plain, Bool.and_self]
theorem plPt : ∀ (l : List Pt), D.plainLL (l.map ptC) = true
  | [] => rfl
  | a :: l => by simp only [List.map_cons, D.plainLL, plPt l, ptC, D.plainL, D.plain, Bool.and_self]
theorem tkR (l : List Rc) : (l.map rcC).take l.length = l.map rcC := List.take_of_length_le (by simp)
theorem tkP (l : List Pt) : (l.map ptC).take l.length = l.map ptC := List.take_of_length_le (by simp)
end Go.Rect

set_option linter.unusedVariables false
set_option linter.unusedSectionVars false
namespace Go.Rect
open Go.Eng
theorem span_spec {x w : Int} : spanB x w = true ↔ -1048576 ≤ x ∧ x ≤ 1048576 ∧ 0 ≤ w ∧ w ≤ 1048576 - x := by
  simp only [spanB, Bool.and_eq_true, decide_eq_true_eq, and_assoc]
theorem valid_spec {r : Rc} : validB r = true ↔ (-1048576 ≤ r.x ∧ r.x ≤ 1048576 ∧ 0 ≤ r.w ∧ r.w ≤ 1048576 - r.x) ∧ (-1048576 ≤ r.y ∧ r.y ≤ 1048576 ∧ 0 ≤ r.h ∧ r.h ≤ 1048576 - r.y) := by
  simp only [validB, Bool.and_eq_true, span_spec]
theorem empty_spec {r : Rc} : emptyB r = false ↔ (-1048576 ≤ r.x ∧ r.x ≤ 1048576 ∧ 0 < r.w ∧ r.w ≤ 1048576 - r.x) ∧ (-1048576 ≤ r.y ∧ r.y ≤ 1048576 ∧ 0 < r.h ∧ r.h ≤ 1048576 - r.y) := by
  simp only [emptyB, Bool.or_eq_false_iff, Bool.not_eq_false', valid_spec, beq_eq_false_iff_ne, ne_eq]; omega
theorem empty_true {r : Rc} : emptyB r = true ↔ ¬ ((-1048576 ≤ r.x ∧ r.x ≤ 1048576 ∧ 0 < r.w ∧ r.w ≤ 1048576 - r.x) ∧ (-1048576 ≤ r.y ∧ r.y ≤ 1048576 ∧ 0 < r.h ∧ r.h ≤ 1048576 - r.y)) := by
  rw [← empty_spec]; simp
theorem fin_rv1 {r : Rc} (hc : ((r.x < -1048576 ∨ 1048576 < r.x) ∨ r.y < -1048576) ∨ 1048576 < r.y) : false = validB r := by
  symm; rw [Bool.eq_false_iff]; intro h; have := valid_spec.1 h; omega
theorem fin_rv2 {r : Rc} (hc : ((-1048576 ≤ r.x ∧ r.x ≤ 1048576) ∧ -1048576 ≤ r.y) ∧ r.y ≤ 1048576) : (decide (0 ≤ r.w) && decide (0 ≤ r.h) && decide (r.w ≤ IntKind.i64.wrap (1048576 - r.x)) && decide (r.h ≤ IntKind.i64.wrap (1048576 - r.y))) = validB r := by
  simp (disch := omega) only [w64]; rw [Bool.eq_iff_iff, valid_spec]; simp only [Bool.and_eq_true, decide_eq_true_eq]; omega
theorem ne_of {r : Rc} (h : (validB r = true ∧ ¬r.w = 0) ∧ ¬r.h = 0) : emptyB r = false := by
  have := valid_spec.1 h.1.1; rw [empty_spec]; omega
theorem fin_sp1 {r : Rc} {n : Int} (hc : (validB r = false ∨ r.w = 0) ∨ r.h = 0) : 0 = spanS r n ∧ -1 = spanE r n := by
  have : emptyB r = true := by simp only [emptyB, Bool.or_eq_true, beq_iff_eq, Bool.not_eq_true']; exact hc
  simp [spanS, spanE, this]
theorem fin_sp2 {r : Rc} {n : Int} (h : (validB r = true ∧ ¬r.w = 0) ∧ ¬r.h = 0) (hc : n = 0) : r.x = spanS r n ∧ IntKind.i64.wrap (IntKind.i64.wrap (r.x + r.w) - 1) = spanE r n := by
  have h1 := ne_of h; have h2 := empty_spec.1 h1; subst hc; simp (disch := omega) only [w64]; simp [spanS, spanE, h1]
theorem fin_sp3 {r : Rc} {n : Int} (h : (validB r = true ∧ ¬r.w = 0) ∧ ¬r.h = 0) (hc : ¬ n = 0) : r.y = spanS r n ∧ IntKind.i64.wrap (IntKind.i64.wrap (r.y + r.h) - 1) = spanE r n := by
  have h1 := ne_of h; have h2 := empty_spec.1 h1; simp (disch := omega) only [w64]; simp [spanS, spanE, h1, hc]
theorem fin_rhas {r : Rc} {p : Pt} : (decide (spanS r 0 ≤ p.x) && decide (p.x ≤ spanE r 0) && decide (spanS r 1 ≤ p.y) && decide (p.y ≤ spanE r 1)) = hasB r p := by
  rw [Bool.eq_iff_iff]; simp only [hasB, Bool.and_eq_true, decide_eq_true_eq, valid_spec]
  cases h : emptyB r
  · have := empty_spec.1 h; simp only [spanS, spanE, h]; simp; omega
  · have := empty_true.1 h; simp only [spanS, spanE, h]; simp; omega
theorem fin_w1 {a b : Rc} (hc : emptyB a = true) : true = withinB a b := by simp [withinB, hc]
theorem fin_w2 {a b : Rc} (h : emptyB a = false) (hc : emptyB b = true) : false = withinB a b := by simp [withinB, h, hc]
theorem fin_w3 {a b : Rc} (h : emptyB a = false) (hc : emptyB b = false) : (decide (b.x ≤ a.x) && decide (IntKind.i64.wrap (a.x + a.w) ≤ IntKind.i64.wrap (b.x + b.w)) && decide (b.y ≤ a.y) && decide (IntKind.i64.wrap (a.y + a.h) ≤ IntKind.i64.wrap (b.y + b.h))) = withinB a b := by
  have := empty_spec.1 h; have := empty_spec.1 hc; simp (disch := omega) only [w64]; simp [withinB, h, hc]
theorem fin_rw {a b : Rc} (h : emptyB a = false) : (hasB b ⟨spanS a 0, spanS a 1⟩ && hasB b ⟨spanE a 0, spanE a 1⟩) = withinB a b := by
  have h1 := empty_spec.1 h
  simp only [spanS, spanE, h]
  rw [Bool.eq_iff_iff]
  cases hb : emptyB b
  · have h2 := empty_spec.1 hb
    simp only [withinB, h, hb, hasB, Bool.and_eq_true, decide_eq_true_eq, valid_spec, Bool.false_or, Bool.not_false, Bool.true_and]; simp; omega
  · have h2 := empty_true.1 hb
    simp only [withinB, h, hb, hasB, Bool.and_eq_true, decide_eq_true_eq, valid_spec, Bool.false_or, Bool.not_true, Bool.false_and]; simp; omega
theorem fe {r r' : Rc} (h : r = r') : r.x = r'.x ∧ r.y = r'.y ∧ r.w = r'.w ∧ r.h = r'.h := by subst h; exact ⟨rfl, rfl, rfl, rfl⟩
theorem Rc.ext' {r r' : Rc} (h : r.x = r'.x ∧ r.y = r'.y ∧ r.w = r'.w ∧ r.h = r'.h) : r = r' := by
  cases r; cases r'; simpa using h
theorem fin_b1 {x0 y0 x1 y1 : Int} (hc : min x1 1048576 ≤ max x0 (-1048576) ∨ min y1 1048576 ≤ max y0 (-1048576)) : zR = betweenR x0 y0 x1 y1 := by rw [betweenR, if_pos hc]
theorem fin_b2 {x0 y0 x1 y1 : Int} (hc : max x0 (-1048576) < min x1 1048576 ∧ max y0 (-1048576) < min y1 1048576) :
    (⟨max x0 (-1048576), max y0 (-1048576), IntKind.i64.wrap (min x1 1048576 - max x0 (-1048576)), IntKind.i64.wrap (min y1 1048576 - max y0 (-1048576))⟩ : Rc) = betweenR x0 y0 x1 y1 := by
  rw [betweenR, if_neg (by omega), w64 (by omega) (by omega), w64 (by omega) (by omega)]
theorem fin_o1 {x0 x1 y0 y1 : Int} (hc : x1 < x0 ∨ y1 < y0) : zR = ofR x0 x1 y0 y1 := by rw [ofR, if_pos hc]
theorem fin_o2 {x0 x1 y0 y1 : Int} (h1 : -4611686018427387904 ≤ x0) (h2 : x1 ≤ 4611686018427387900) (h3 : -4611686018427387904 ≤ y0) (h4 : y1 ≤ 4611686018427387900) (hc : x0 ≤ x1 ∧ y0 ≤ y1) :
    (⟨x0, y0, IntKind.i64.wrap (IntKind.i64.wrap (x1 - x0) + 1), IntKind.i64.wrap (IntKind.i64.wrap (y1 - y0) + 1)⟩ : Rc) = ofR x0 x1 y0 y1 := by
  rw [ofR, if_neg (by omega), w64 (n := x1 - x0) (by omega) (by omega), w64 (n := y1 - y0) (by omega) (by omega), w64 (by omega) (by omega), w64 (by omega) (by omega)]
theorem sp_bd (r : Rc) (n : Int) : -1048576 ≤ spanS r n ∧ spanS r n ≤ 1048576 ∧ -1048577 ≤ spanE r n ∧ spanE r n ≤ 1048576 := by
  unfold spanS spanE
  cases h : emptyB r
  · have := empty_spec.1 h; simp only [Bool.false_eq_true, if_false]; split <;> omega
  · simp
theorem sp_ne {r : Rc} (h : emptyB r = false) : spanS r 0 = r.x ∧ spanE r 0 = r.x + r.w - 1 ∧ spanS r 1 = r.y ∧ spanE r 1 = r.y + r.h - 1 := by simp [spanS, spanE, h]
theorem fin_m1 {a b : Rc} (hc : emptyB a = true ∨ emptyB b = true) : zR = meetR a b := by rw [meetR, if_pos (by simpa using hc)]
theorem fin_m2 {a b : Rc} (hc : emptyB a = false ∧ emptyB b = false) : betweenR (max a.x b.x) (max a.y b.y) (min (IntKind.i64.wrap (a.x + a.w)) (IntKind.i64.wrap (b.x + b.w))) (min (IntKind.i64.wrap (a.y + a.h)) (IntKind.i64.wrap (b.y + b.h))) = meetR a b := by
  have := empty_spec.1 hc.1; have := empty_spec.1 hc.2
  simp (disch := omega) only [w64]; rw [meetR, if_neg (by simp [hc])]
theorem fin_m3 {a b : Rc} (hc : emptyB a = false ∧ emptyB b = false) : ofR (max (spanS a 0) (spanS b 0)) (min (spanE a 0) (spanE b 0)) (max (spanS a 1) (spanS b 1)) (min (spanE a 1) (spanE b 1)) = meetR a b := by
  have h1 := empty_spec.1 hc.1; have h2 := empty_spec.1 hc.2
  obtain ⟨e1, e2, e3, e4⟩ := sp_ne hc.1; obtain ⟨f1, f2, f3, f4⟩ := sp_ne hc.2
  rw [meetR, if_neg (by simp [hc]), e1, e2, e3, e4, f1, f2, f3, f4, ofR, betweenR]
  split
  · rw [if_pos (by omega)]
  · rw [if_neg (by omega)]; apply Rc.ext'; simp only; omega
theorem lim4_bd (n : Int) : -4194304 ≤ lim4 n ∧ lim4 n ≤ 4194304 := by unfold lim4; omega
theorem lim34 (n : Int) : lim3 n = lim4 n ∨ (3145728 ≤ lim3 n ∧ 3145728 ≤ lim4 n) ∨ (lim3 n ≤ -3145728 ∧ lim4 n ≤ -3145728) := by unfold lim3 lim4; omega
theorem lim3_bd (n : Int) : -3145728 ≤ lim3 n ∧ lim3 n ≤ 3145728 := by unfold lim3; omega
theorem fin_zg {r : Rc} {n : Int} (hc : emptyB r = true) : zR = growR r n := by simp [growR, hc]
theorem ax_in {x w l l' : Int} (h1 : -1048576 ≤ x) (h2 : 0 < w) (h3 : w ≤ 1048576 - x) (hl : l = l' ∨ (3145728 ≤ l ∧ 3145728 ≤ l') ∨ (l ≤ -3145728 ∧ l' ≤ -3145728)) (k k' : Int) (hk : k = k' ∨ (3145728 ≤ k ∧ 3145728 ≤ k') ∨ (k ≤ -3145728 ∧ k' ≤ -3145728)) (hs : l = k ∨ l = -k) (hs' : l' = k' ∨ l' = -k') (hm : l = k ↔ l' = k') :
    (min (x + w - 1 + k) 1048575 < max (x + l) (-1048576) ↔ min (x + w + k') 1048576 ≤ max (x + l') (-1048576)) ∧
    (¬ min (x + w - 1 + k) 1048575 < max (x + l) (-1048576) → max (x + l) (-1048576) = max (x + l') (-1048576) ∧ min (x + w - 1 + k) 1048575 - max (x + l) (-1048576) + 1 = min (x + w + k') 1048576 - max (x + l') (-1048576)) := by
  have key : (l = l' ∧ k = k') ∨ (l = l' → k = k' → False) := by
    by_cases h : l = l' ∧ k = k'
    · exact .inl h
    · exact .inr fun a b => h ⟨a, b⟩
  rcases key with ⟨rfl, rfl⟩ | hne
  · clear hl hk hs hs' hm; constructor
    · constructor <;> (intro h; omega)
    · intro h; omega
  · rcases hl with rfl | ⟨a1, a2⟩ | ⟨a1, a2⟩ <;> rcases hk with rfl | ⟨b1, b2⟩ | ⟨b1, b2⟩
    all_goals (constructor <;> first | (constructor <;> (intro h; omega)) | (intro h; omega))
theorem fin_gr {r : Rc} {n : Int} (hc : emptyB r = false) : betweenR (IntKind.i64.wrap (r.x - lim4 n)) (IntKind.i64.wrap (r.y - lim4 n)) (IntKind.i64.wrap (IntKind.i64.wrap (r.x + r.w) + lim4 n)) (IntKind.i64.wrap (IntKind.i64.wrap (r.y + r.h) + lim4 n)) = growR r n := by
  have := empty_spec.1 hc; have := lim4_bd n
  simp (disch := omega) only [w64]; simp [growR, hc]
theorem fin_rgr {r : Rc} {n : Int} (hc : emptyB r = false) : worldR (IntKind.i64.wrap (spanS r 0 - lim3 n)) (IntKind.i64.wrap (spanE r 0 + lim3 n)) (IntKind.i64.wrap (spanS r 1 - lim3 n)) (IntKind.i64.wrap (spanE r 1 + lim3 n)) = growR r n := by
  have h1 := empty_spec.1 hc
  obtain ⟨e1, e2, e3, e4⟩ := sp_ne hc
  have b1 := lim3_bd n
  rw [e1, e2, e3, e4]; simp (disch := omega) only [w64]
  have hl := lim34 n
  have hl' : -lim3 n = -lim4 n ∨ (3145728 ≤ -lim3 n ∧ 3145728 ≤ -lim4 n) ∨ (-lim3 n ≤ -3145728 ∧ -lim4 n ≤ -3145728) := by omega
  obtain ⟨u1, u2⟩ := ax_in (x := r.x) (w := r.w) (l := -lim3 n) (l' := -lim4 n) (by omega) (by omega) (by omega) hl' (lim3 n) (lim4 n) hl (.inr rfl) (.inr rfl) (by omega)
  obtain ⟨v1, v2⟩ := ax_in (x := r.y) (w := r.h) (l := -lim3 n) (l' := -lim4 n) (by omega) (by omega) (by omega) hl' (lim3 n) (lim4 n) hl (.inr rfl) (.inr rfl) (by omega)
  simp only [← Int.sub_eq_add_neg] at u1 u2 v1 v2
  simp only [growR, hc, Bool.false_eq_true, if_false, worldR, ofR, betweenR]
  split
  · rename_i hh; rw [if_pos (hh.imp u1.1 v1.1)]
  · rename_i hh
    have n1 := u2 fun h => hh (.inl h)
    have n2 := v2 fun h => hh (.inr h)
    rw [if_neg (fun h => hh (h.imp u1.2 v1.2))]; apply Rc.ext'; simp only; exact ⟨n1.1, n2.1, n1.2, n2.2⟩
section
variable {α : Type} [DecidableEq α] {a b : List α}
end
theorem Pt.ext' {r r' : Pt} (h : r.x = r'.x ∧ r.y = r'.y) : r = r' := by cases r; cases r'; simpa using h

theorem w4 {k : Nat} (h : (k : Int) < 1000000) : IntKind.i64.wrap ((k : Int) + 1) = ((k + 1 : Nat) : Int) := by rw [w64 (by omega) (by omega)]; omega
section
variable {a b : Rc} {L : List Rc} {k : Nat}
def partsO (a m : Rc) : List Rc := [ofR a.x (a.x + a.w - 1) a.y (m.y - 1), ofR a.x (m.x - 1) m.y (m.y + m.h - 1), ofR (m.x + m.w) (a.x + a.w - 1) m.y (m.y + m.h - 1), ofR a.x (a.x + a.w - 1) (m.y + m.h) (a.y + a.h - 1)]
end
def NX (r : Rc) : Nat := (tileI (r.x + r.w - 1) - tileI r.x + 1).toNat
def NY (r : Rc) : Nat := (tileI (r.y + r.h - 1) - tileI r.y + 1).toNat
theorem tile_bd {x : Int} (h1 : -1048576 ≤ x) (h2 : x ≤ 1048576) : -65536 ≤ tileI x ∧ tileI x ≤ 65536 := by unfold tileI; omega
theorem tile_mono {x y : Int} (h : x ≤ y) : tileI x ≤ tileI y := by unfold tileI; omega
structure TB (r : Rc) : Prop where
  x0 : -65536 ≤ tileI r.x
  x1 : tileI (r.x + r.w - 1) ≤ 65536
  y0 : -65536 ≤ tileI r.y
  y1 : tileI (r.y + r.h - 1) ≤ 65536
  xx : tileI r.x ≤ tileI (r.x + r.w - 1)
  yy : tileI r.y ≤ tileI (r.y + r.h - 1)
theorem TB.of {r : Rc} (h : emptyB r = false) : TB r := by
  have := empty_spec.1 h
  exact ⟨(tile_bd (by omega) (by omega)).1, (tile_bd (by omega) (by omega)).2, (tile_bd (by omega) (by omega)).1, (tile_bd (by omega) (by omega)).2, tile_mono (by omega), tile_mono (by omega)⟩
def gr (r : Rc) (j : Nat) : List Pt := gridL (tileI r.x) (tileI r.y) (NX r) j
def gri (r : Rc) (j i : Nat) : List Pt := gr r j ++ rowL (tileI r.y + j) (tileI r.x) i
section
variable {r : Rc} {i j : Nat}
end

end Go.Rect

namespace Go.Rect
open Go.Eng
theorem meet_cases (a b : Rc) : (meetR a b = zR ∧ (emptyB a = true ∨ emptyB b = true ∨ min (a.x + a.w) (b.x + b.w) ≤ max a.x b.x ∨ min (a.y + a.h) (b.y + b.h) ≤ max a.y b.y)) ∨
    (emptyB a = false ∧ emptyB b = false ∧ emptyB (meetR a b) = false ∧ (meetR a b).x = max a.x b.x ∧ (meetR a b).y = max a.y b.y ∧
      (meetR a b).w = min (a.x + a.w) (b.x + b.w) - max a.x b.x ∧ (meetR a b).h = min (a.y + a.h) (b.y + b.h) - max a.y b.y) := by
  cases ha : emptyB a
  · cases hb : emptyB b
    · have h1 := empty_spec.1 ha; have h2 := empty_spec.1 hb
      have e : meetR a b = betweenR (max a.x b.x) (max a.y b.y) (min (a.x + a.w) (b.x + b.w)) (min (a.y + a.h) (b.y + b.h)) := by simp [meetR, ha, hb]
      by_cases hc : min (a.x + a.w) (b.x + b.w) ≤ max a.x b.x ∨ min (a.y + a.h) (b.y + b.h) ≤ max a.y b.y
      · left; refine ⟨?_, .inr (.inr hc)⟩
        rw [e, betweenR, if_pos (by omega)]
      · right
        have e2 : meetR a b = ⟨max a.x b.x, max a.y b.y, min (a.x + a.w) (b.x + b.w) - max a.x b.x, min (a.y + a.h) (b.y + b.h) - max a.y b.y⟩ := by
          rw [e, betweenR, if_neg (by omega)]
          apply Rc.ext'; simp only; omega
        refine ⟨rfl, rfl, ?_, ?_⟩
        · rw [empty_spec, e2]; simp only; omega
        · rw [e2]; simp
    · left; exact ⟨by simp [meetR, hb], .inr (.inl rfl)⟩
  · left; exact ⟨by simp [meetR, ha], .inl rfl⟩
theorem has_spec {r : Rc} {p : Pt} : hasB r p = true ↔ emptyB r = false ∧ r.x ≤ p.x ∧ p.x < r.x + r.w ∧ r.y ≤ p.y ∧ p.y < r.y + r.h := by
  simp only [hasB, Bool.and_eq_true, decide_eq_true_eq, valid_spec, empty_spec]; omega
def canB (r : Rc) : Prop := emptyB r = true → r = zR
theorem meet_has (a b : Rc) (p : Pt) : hasB (meetR a b) p = (hasB a p && hasB b p) := by
  rw [Bool.eq_iff_iff, Bool.and_eq_true, has_spec, has_spec, has_spec]
  rcases meet_cases a b with ⟨e, h⟩ | ⟨h1, h2, h3, h4, h5, h6, h7⟩
  · rw [e]
    constructor
    · intro h'; exact absurd h'.1 (by decide)
    · intro ⟨⟨g1, g2⟩, ⟨g3, g4⟩⟩
      simp only [g1, g3, Bool.false_eq_true, false_or] at h; omega
  · simp only [h1, h2, h3, h4, h5, h6, h7, true_and]; omega
theorem within_spec {a b : Rc} : withinB a b = true ↔ emptyB a = true ∨ (emptyB b = false ∧ b.x ≤ a.x ∧ a.x + a.w ≤ b.x + b.w ∧ b.y ≤ a.y ∧ a.y + a.h ≤ b.y + b.h) := by
  simp only [withinB, Bool.or_eq_true, Bool.and_eq_true, Bool.not_eq_true', decide_eq_true_eq, and_assoc]
def sumK (a b : Rc) (k : Nat) : Int := areaI (meetR a b) + (((minusL a b).take k).map areaI).sum

theorem getD_mem {α : Type} {l : List α} {k : Nat} {z : α} (h : (k : Int) < (l.length : Int)) : l.getD k z ∈ l := by
  have h : k < l.length := by omega
  rw [List.getD_eq_getElem?_getD, List.getElem?_eq_getElem h]; exact List.getElem_mem h
theorem take_succ' {α : Type} {l : List α} {k : Nat} {z : α} (h : (k : Int) < (l.length : Int)) : l.take (k + 1) = l.take k ++ [l.getD k z] := by
  have h : k < l.length := by omega
  rw [List.take_add_one, List.getD_eq_getElem?_getD, List.getElem?_eq_getElem h]; rfl
def arT (r : Rc) (t : Pt) : Int := areaI (meetR (ofTileR t) r)
def sumT (r : Rc) (k : Nat) : Int := (((tilesL r).take k).map (arT r)).sum
def ov (x w t : Int) : Int := min (16 * t + 16) (x + w) - max (16 * t) x
def pre (x w : Int) (n : Nat) : Int := max 0 (min (16 * (tileI x + n)) (x + w) - x)
theorem NN {r : Rc} (h : emptyB r = false) : (NX r : Int) = tileI (r.x + r.w - 1) - tileI r.x + 1 ∧ (NY r : Int) = tileI (r.y + r.h - 1) - tileI r.y + 1 := by
  have b := empty_spec.1 h
  unfold NX NY tileI; omega
end Go.Rect

