import Derived.Test.YtnbeigcjhpldmaaGreatED
set_option linter.unusedSimpArgs false
set_option linter.unusedVariables false
namespace Go.Rect
open Go.Eng

structure Rc where
  x : Int
  y : Int
  w : Int
  h : Int
  deriving DecidableEq, Inhabited
structure Pt where
  x : Int
  y : Int
  deriving DecidableEq, Inhabited

def rcC (r : Rc) : List D := [.i r.x, .i r.y, .i r.w, .i r.h]
def ptC (p : Pt) : List D := [.i p.x, .i p.y]
def rcD (r : Rc) : D := .agg (rcC r)
def ptD (p : Pt) : D := .agg (ptC p)
def unRc : List D → Rc
  | [.i x, .i y, .i w, .i h] => ⟨x, y, w, h⟩
  | _ => ⟨0, 0, 0, 0⟩
def unPt : List D → Pt
  | [.i x, .i y] => ⟨x, y⟩
  | _ => ⟨0, 0⟩
theorem unRc_rcC (r : Rc) : unRc (rcC r) = r := rfl
theorem unPt_ptC (p : Pt) : unPt (ptC p) = p := rfl

def MX : Int := 1048576
def spanB (x w : Int) : Bool := decide (-1048576 ≤ x) && decide (x ≤ 1048576) && decide (0 ≤ w) && decide (w ≤ 1048576 - x)
def validB (r : Rc) : Bool := spanB r.x r.w && spanB r.y r.h
def emptyB (r : Rc) : Bool := !validB r || r.w == 0 || r.h == 0
def hasB (r : Rc) (p : Pt) : Bool := validB r && decide (r.x ≤ p.x) && decide (p.x < r.x + r.w) && decide (r.y ≤ p.y) && decide (p.y < r.y + r.h)
def withinB (a b : Rc) : Bool := emptyB a || (!emptyB b && decide (b.x ≤ a.x) && decide (a.x + a.w ≤ b.x + b.w) && decide (b.y ≤ a.y) && decide (a.y + a.h ≤ b.y + b.h))
def areaI (r : Rc) : Int := if emptyB r then 0 else r.w * r.h
def zR : Rc := ⟨0, 0, 0, 0⟩
def betweenR (x0 y0 x1 y1 : Int) : Rc :=
  if min x1 1048576 ≤ max x0 (-1048576) ∨ min y1 1048576 ≤ max y0 (-1048576) then zR
  else ⟨max x0 (-1048576), max y0 (-1048576), min x1 1048576 - max x0 (-1048576), min y1 1048576 - max y0 (-1048576)⟩
def meetR (a b : Rc) : Rc := if emptyB a || emptyB b then zR else betweenR (max a.x b.x) (max a.y b.y) (min (a.x + a.w) (b.x + b.w)) (min (a.y + a.h) (b.y + b.h))
def joinR (a b : Rc) : Rc :=
  if emptyB a && emptyB b then zR else if emptyB a then b else if emptyB b then a
  else betweenR (min a.x b.x) (min a.y b.y) (max (a.x + a.w) (b.x + b.w)) (max (a.y + a.h) (b.y + b.h))
def lim4 (n : Int) : Int := min (max n (-4194304)) 4194304
def moveR (r : Rc) (d : Pt) : Rc := if emptyB r then zR else betweenR (r.x + lim4 d.x) (r.y + lim4 d.y) (r.x + lim4 d.x + r.w) (r.y + lim4 d.y + r.h)
def growR (r : Rc) (n : Int) : Rc := if emptyB r then zR else betweenR (r.x - lim4 n) (r.y - lim4 n) (r.x + r.w + lim4 n) (r.y + r.h + lim4 n)
def ofTileR (t : Pt) : Rc := if t.x < -65536 ∨ 65536 ≤ t.x ∨ t.y < -65536 ∨ 65536 ≤ t.y then zR else ⟨t.x * 16, t.y * 16, 16, 16⟩
def tileI (x : Int) : Int := (x + 1048576) / 16 - 65536
def part0 (a m : Rc) : Rc := ⟨a.x, a.y, a.w, m.y - a.y⟩
def part1 (a m : Rc) : Rc := ⟨a.x, m.y, m.x - a.x, m.h⟩
def part2 (a m : Rc) : Rc := ⟨m.x + m.w, m.y, a.x + a.w - m.x - m.w, m.h⟩
def part3 (a m : Rc) : Rc := ⟨a.x, m.y + m.h, a.w, a.y + a.h - m.y - m.h⟩
def minusL (a b : Rc) : List Rc :=
  if emptyB a then [] else if emptyB (meetR a b) then [a]
  else [part0 a (meetR a b), part1 a (meetR a b), part2 a (meetR a b), part3 a (meetR a b)].filter fun p => !emptyB p

def sameL {α : Type} [DecidableEq α] (a b : List α) : Bool := decide (a = b)
def spanS (r : Rc) (n : Int) : Int := if emptyB r then 0 else if n = 0 then r.x else r.y
def spanE (r : Rc) (n : Int) : Int := if emptyB r then -1 else if n = 0 then r.x + r.w - 1 else r.y + r.h - 1
def ofR (x0 x1 y0 y1 : Int) : Rc := if x1 < x0 ∨ y1 < y0 then zR else ⟨x0, y0, x1 - x0 + 1, y1 - y0 + 1⟩
def worldR (x0 x1 y0 y1 : Int) : Rc := ofR (max x0 (-1048576)) (min x1 1048575) (max y0 (-1048576)) (min y1 1048575)
def lim3 (n : Int) : Int := min (max n (-3145728)) 3145728
def rowL (y x0 : Int) (n : Nat) : List Pt := (List.range n).map fun (i : Nat) => ⟨x0 + i, y⟩
def gridL (x0 y0 : Int) (n : Nat) : Nat → List Pt
  | 0 => []
  | m + 1 => gridL x0 y0 n m ++ rowL (y0 + m) x0 n
def tilesL (r : Rc) : List Pt :=
  if emptyB r then [] else
  if (tileI (r.x + r.w - 1) - tileI r.x + 1) * (tileI (r.y + r.h - 1) - tileI r.y + 1) > 4096 then [] else
  gridL (tileI r.x) (tileI r.y) (tileI (r.x + r.w - 1) - tileI r.x + 1).toNat (tileI (r.y + r.h - 1) - tileI r.y + 1).toNat

theorem eqI (a : Int) : (a = a) = True := eq_self a
theorem eqN (a : Nat) : (a = a) = True := eq_self a
theorem eqB (a : Bool) : (a = a) = True := eq_self a
theorem eqD (a : D) : (a = a) = True := eq_self a
theorem eqL1 (a : List D) : (a = a) = True := eq_self a
theorem eqL2 (a : List (List D)) : (a = a) = True := eq_self a
theorem unRcE (r : Rc) : unRc [.i r.x, .i r.y, .i r.w, .i r.h] = r := rfl
theorem unPtE (r : Pt) : unPt [.i r.x, .i r.y] = r := rfl
theorem mapRc (l : List Rc) : (l.map rcC).map unRc = l := by
  induction l with
  | nil => rfl
  | cons a l ih => simp [ih, unRc_rcC]
theorem mapPt (l : List Pt) : (l.map ptC).map unPt = l := by
  induction l with
  | nil => rfl
  | cons a l ih => simp [ih, unPt_ptC]
theorem getDRc (l : List Rc) (k : Nat) : (l.map rcC).getD k [.i 0, .i 0, .i 0, .i 0] = rcC (l.getD k zR) := by
  simp only [List.getD_eq_getElem?_getD, List.getElem?_map]
  cases l[k]? <;> rfl
theorem getDPt (l : List Pt) (k : Nat) : (l.map ptC).getD k [.i 0, .i 0] = ptC (l.getD k ⟨0, 0⟩) := by
  simp only [List.getD_eq_getElem?_getD, List.getElem?_map]
  cases l[k]? <;> rfl
theorem w64 {n : Int} (h1 : -9223372036854775808 ≤ n) (h2 : n ≤ 9223372036854775807) : IntKind.i64.wrap n = n := by
  rw [IntKind.wrap_i64]; omega

theorem w64n {k n : Nat} (h : (k : Int) < (n : Int)) (hn : n ≤ maxLen) : IntKind.i64.wrap ((k : Int) + 1) = ((k + 1 : Nat) : Int) := by
  unfold maxLen at hn
  rw [w64 (by omega) (by omega)]; omega
theorem w64l {k n : Nat} (h : (k : Int) < (n : Int)) (hn : n ≤ 281474976710656) : IntKind.i64.wrap ((k : Int) + 1) = ((k + 1 : Nat) : Int) := by
  rw [w64 (by omega) (by omega)]; omega
def partsL (a m : Rc) : List Rc := [part0 a m, part1 a m, part2 a m, part3 a m]
def pl (l : List Rc) (k : Nat) : List Rc := (l.take k).filter fun p => !emptyB p
theorem pl_succ {l : List Rc} {k : Nat} (h : k < l.length) : pl l (k + 1) = bif emptyB (l.getD k zR) then pl l k else pl l k ++ [l.getD k zR] := by
  have e : l.getD k zR = l[k] := by simp [List.getD_eq_getElem?_getD, List.getElem?_eq_getElem h]
  rw [e, pl, List.take_add_one, List.filter_append, List.getElem?_eq_getElem h]
  cases hh : emptyB l[k] <;> simp [pl, hh]
theorem plRc : ∀ (l : List Rc), D.plainLL (l.map rcC) = true
  | [] => rfl
  | a :: l => by simp only [List.map_cons, D.plainLL, plRc l, rcC, D.plainL, D.plain, Bool.and_self]
theorem plPt : ∀ (l : List Pt), D.plainLL (l.map ptC) = true
  | [] => rfl
  | a :: l => by simp only [List.map_cons, D.plainLL, plPt l, ptC, D.plainL, D.plain, Bool.and_self]
theorem tkR (l : List Rc) : (l.map rcC).take l.length = l.map rcC := List.take_of_length_le (by simp)
theorem tkP (l : List Pt) : (l.map ptC).take l.length = l.map ptC := List.take_of_length_le (by simp)
end Go.Rect

set_option linter.unusedSimpArgs false
set_option linter.unusedVariables false
namespace Go.Rect
structure Rw where
  lo : Int
  hi : Int
  deriving DecidableEq
def inR (l : List Rw) (x : Int) : Prop := ∃ p ∈ l, p.lo ≤ x ∧ x < p.hi
def Mx : List Rw → Prop
  | [] => True
  | p :: l => p.lo < p.hi ∧ (∀ q, l.head? = some q → p.hi < q.lo) ∧ Mx l
theorem inR_nil {x : Int} : ¬ inR [] x := fun ⟨_, h, _⟩ => by cases h
theorem inR_cons {p : Rw} {l : List Rw} {x : Int} : inR (p :: l) x ↔ (p.lo ≤ x ∧ x < p.hi) ∨ inR l x := by
  simp only [inR, List.mem_cons, exists_eq_or_imp]
theorem mx_tl : ∀ {l : List Rw} {p : Rw} {x : Int}, Mx (p :: l) → inR l x → p.hi < x
  | [], _, _, _, h => absurd h inR_nil
  | q :: l, p, x, hm, h => by
    have h1 := hm.2.1 q rfl
    have h2 := hm.2.2.1
    rcases inR_cons.1 h with h3 | h3
    · omega
    · have := mx_tl hm.2.2 h3
      omega
theorem mx_lo {p : Rw} {l : List Rw} {x : Int} (hm : Mx (p :: l)) (h : inR (p :: l) x) : p.lo ≤ x := by
  rcases inR_cons.1 h with h3 | h3
  · exact h3.1
  · have := mx_tl hm h3
    have := hm.1
    omega
theorem mx_hd {p : Rw} {l : List Rw} (hm : Mx (p :: l)) : inR (p :: l) p.lo := inR_cons.2 (.inl ⟨Int.le_refl _, hm.1⟩)
theorem mx_hi {p : Rw} {l : List Rw} (hm : Mx (p :: l)) : ¬ inR (p :: l) p.hi := fun h => by
  rcases inR_cons.1 h with h3 | h3
  · omega
  · have := mx_tl hm h3; omega
theorem mx_uniq : ∀ {a b : List Rw}, Mx a → Mx b → (∀ x, inR a x ↔ inR b x) → a = b
  | [], [], _, _, _ => rfl
  | [], q :: b, _, hb, h => absurd ((h q.lo).2 (mx_hd hb)) inR_nil
  | p :: a, [], ha, _, h => absurd ((h p.lo).1 (mx_hd ha)) inR_nil
  | p :: a, q :: b, ha, hb, h => by
    have e1 : p.lo = q.lo := by
      have h1 := mx_lo hb ((h _).1 (mx_hd ha))
      have h2 := mx_lo ha ((h _).2 (mx_hd hb))
      omega
    have h0 := ha.1
    have h9 := hb.1
    have e2 : p.hi = q.hi := by
      rcases Int.lt_trichotomy p.hi q.hi with h1 | h1 | h1
      · exact absurd ((h p.hi).2 (inR_cons.2 (.inl ⟨by omega, h1⟩))) (mx_hi ha)
      · exact h1
      · exact absurd ((h q.hi).1 (inR_cons.2 (.inl ⟨by omega, h1⟩))) (mx_hi hb)
    have e3 : a = b := mx_uniq ha.2.2 hb.2.2 fun x => by
      constructor
      · intro h1
        have h2 := mx_tl ha h1
        rcases inR_cons.1 ((h x).1 (inR_cons.2 (.inr h1))) with h3 | h3
        · omega
        · exact h3
      · intro h1
        have h2 := mx_tl hb h1
        rcases inR_cons.1 ((h x).2 (inR_cons.2 (.inr h1))) with h3 | h3
        · omega
        · exact h3
    cases p; cases q; simp only at e1 e2; subst e1 e2 e3; rfl

structure Bd where
  y : Int
  h : Int
  rs : List Rw
  deriving DecidableEq
def inBd (l : List Bd) (x y : Int) : Prop := ∃ b ∈ l, (b.y ≤ y ∧ y < b.y + b.h) ∧ inR b.rs x
def CanB : List Bd → Prop
  | [] => True
  | b :: l => (b.rs ≠ [] ∧ Mx b.rs ∧ 0 < b.h) ∧ (∀ c, l.head? = some c → b.y + b.h ≤ c.y ∧ (b.y + b.h = c.y → b.rs ≠ c.rs)) ∧ CanB l
theorem inB_nil {x y : Int} : ¬ inBd [] x y := fun ⟨_, h, _⟩ => by cases h
theorem inB_cons {b : Bd} {l : List Bd} {x y : Int} : inBd (b :: l) x y ↔ ((b.y ≤ y ∧ y < b.y + b.h) ∧ inR b.rs x) ∨ inBd l x y := by
  simp only [inBd, List.mem_cons, exists_eq_or_imp]
theorem rs_pt {l : List Rw} (h : l ≠ []) (hm : Mx l) : ∃ x, inR l x := by
  cases l with
  | nil => exact absurd rfl h
  | cons p l => exact ⟨_, mx_hd hm⟩
theorem cb_tl : ∀ {l : List Bd} {b : Bd} {x y : Int}, CanB (b :: l) → inBd l x y → b.y + b.h ≤ y
  | [], _, _, _, _, h => absurd h inB_nil
  | c :: l, b, x, y, hm, h => by
    have h1 := (hm.2.1 c rfl).1
    have h2 := hm.2.2.1.2.2
    rcases inB_cons.1 h with h3 | h3
    · omega
    · have := cb_tl hm.2.2 h3
      omega
theorem cb_lo {b : Bd} {l : List Bd} {x y : Int} (hm : CanB (b :: l)) (h : inBd (b :: l) x y) : b.y ≤ y := by
  rcases inB_cons.1 h with h3 | h3
  · exact h3.1.1
  · have := cb_tl hm h3
    have := hm.1.2.2
    omega
theorem cb_hd {b : Bd} {l : List Bd} (hm : CanB (b :: l)) : ∃ x, inBd (b :: l) x b.y := by
  obtain ⟨x, hx⟩ := rs_pt hm.1.1 hm.1.2.1
  exact ⟨x, inB_cons.2 (.inl ⟨⟨Int.le_refl _, by have := hm.1.2.2; omega⟩, hx⟩)⟩
theorem cb_row {b : Bd} {l : List Bd} {x y : Int} (hm : CanB (b :: l)) (h1 : b.y ≤ y) (h2 : y < b.y + b.h) : inBd (b :: l) x y ↔ inR b.rs x := by
  rw [inB_cons]
  constructor
  · rintro (h | h)
    · exact h.2
    · have := cb_tl hm h; omega
  · exact fun h => .inl ⟨⟨h1, h2⟩, h⟩
theorem cb_below {b : Bd} {l : List Bd} (hm : CanB (b :: l)) : ¬ ∀ x, inBd (b :: l) x (b.y + b.h) ↔ inR b.rs x := fun hn => by
  obtain ⟨x, hx⟩ := rs_pt hm.1.1 hm.1.2.1
  have e : ∀ x, inBd (b :: l) x (b.y + b.h) ↔ inBd l x (b.y + b.h) := fun x => by
    rw [inB_cons]
    constructor
    · rintro (h | h)
      · omega
      · exact h
    · exact .inr
  cases l with
  | nil => exact inB_nil ((e x).1 ((hn x).2 hx))
  | cons c l =>
    have h1 := hm.2.1 c rfl
    have h2 := hm.2.2
    by_cases h3 : b.y + b.h = c.y
    · refine h1.2 h3 (mx_uniq hm.1.2.1 h2.1.2.1 fun x => ?_)
      rw [← hn, e]
      exact cb_row h2 (by omega) (by have := h2.1.2.2; omega)
    · have := cb_lo h2 ((e x).1 ((hn x).2 hx))
      omega
theorem cb_uniq : ∀ {a b : List Bd}, CanB a → CanB b → (∀ x y, inBd a x y ↔ inBd b x y) → a = b
  | [], [], _, _, _ => rfl
  | [], q :: b, _, hb, h => by obtain ⟨x, hx⟩ := cb_hd hb; exact absurd ((h _ _).2 hx) inB_nil
  | p :: a, [], ha, _, h => by obtain ⟨x, hx⟩ := cb_hd ha; exact absurd ((h _ _).1 hx) inB_nil
  | p :: a, q :: b, ha, hb, h => by
    have e1 : p.y = q.y := by
      obtain ⟨x, hx⟩ := cb_hd ha
      obtain ⟨x', hx'⟩ := cb_hd hb
      have h1 := cb_lo hb ((h _ _).1 hx)
      have h2 := cb_lo ha ((h _ _).2 hx')
      omega
    have h0 := ha.1.2.2
    have h9 := hb.1.2.2
    have e2 : p.rs = q.rs := mx_uniq ha.1.2.1 hb.1.2.1 fun x => by
      rw [← cb_row ha (y := p.y) (Int.le_refl _) (by omega), h, cb_row hb (by omega) (by omega)]
    have e3 : p.h = q.h := by
      rcases Int.lt_trichotomy p.h q.h with h1 | h1 | h1
      · exact absurd (fun x => by rw [h, cb_row hb (by omega) (by omega), e2]) (cb_below ha)
      · exact h1
      · exact absurd (fun x => by rw [← h, cb_row ha (by omega) (by omega), e2]) (cb_below hb)
    have e4 : a = b := cb_uniq ha.2.2 hb.2.2 fun x y => by
      constructor
      · intro h1
        have h2 := cb_tl ha h1
        rcases inB_cons.1 ((h x y).1 (inB_cons.2 (.inr h1))) with h3 | h3
        · omega
        · exact h3
      · intro h1
        have h2 := cb_tl hb h1
        rcases inB_cons.1 ((h x y).2 (inB_cons.2 (.inr h1))) with h3 | h3
        · omega
        · exact h3
    cases p; cases q; simp only at e1 e2 e3; subst e1 e2 e3 e4; rfl
def flatB (l : List Bd) : List Rc := l.flatMap fun b => b.rs.map fun r => ⟨r.lo, b.y, r.hi - r.lo, b.h⟩
end Go.Rect

set_option linter.unusedSimpArgs false
set_option linter.unusedVariables false
namespace Go.Rect
theorem cb_app : ∀ {l : List Bd} {b : Bd}, CanB (l ++ [b]) ↔ CanB l ∧ (b.rs ≠ [] ∧ Mx b.rs ∧ 0 < b.h) ∧ ∀ c, l.getLast? = some c → c.y + c.h ≤ b.y ∧ (c.y + c.h = b.y → c.rs ≠ b.rs)
  | [], b => by simp [CanB]
  | [a], b => by
    simp only [List.cons_append, List.nil_append, CanB, List.head?_cons, List.head?_nil, List.getLast?_singleton, Option.some.injEq, forall_eq', reduceCtorEq, false_implies, implies_true, true_and, and_true]
    constructor
    · rintro ⟨h1, h2, h3⟩; exact ⟨h1, h3, h2⟩
    · rintro ⟨h1, h3, h2⟩; exact ⟨h1, h2, h3⟩
  | a :: c :: l, b => by
    have ih := cb_app (l := c :: l) (b := b)
    simp only [List.cons_append] at ih ⊢
    rw [CanB, ih, List.getLast?_cons_cons]
    conv => rhs; rw [CanB]
    simp only [List.head?_cons]
    constructor
    · rintro ⟨h1, h2, h3, h4, h5⟩; exact ⟨⟨h1, h2, h3⟩, h4, h5⟩
    · rintro ⟨⟨h1, h2, h3⟩, h4, h5⟩; exact ⟨h1, h2, h3, h4, h5⟩
theorem inB_app {l m : List Bd} {x y : Int} : inBd (l ++ m) x y ↔ inBd l x y ∨ inBd m x y := by
  simp only [inBd, List.mem_append, or_and_right, exists_or]
theorem inB_one {b : Bd} {x y : Int} : inBd [b] x y ↔ (b.y ≤ y ∧ y < b.y + b.h) ∧ inR b.rs x := by
  rw [inB_cons]; exact ⟨fun h => h.resolve_right inB_nil, .inl⟩
def cstep (st : List Bd) (y h : Int) (rs : List Rw) : List Bd :=
  if rs = [] then st else
  match st.getLast? with
  | none => [⟨y, h, rs⟩]
  | some c => if c.y + c.h = y ∧ c.rs = rs then st.dropLast ++ [⟨c.y, c.h + h, rs⟩] else st ++ [⟨y, h, rs⟩]
def endB (st : List Bd) (y : Int) : Prop := ∀ c, st.getLast? = some c → c.y + c.h ≤ y
theorem cstep_can {st : List Bd} {y h : Int} {rs : List Rw} (hs : CanB st) (hr : Mx rs) (hh : 0 < h) (he : endB st y) :
    CanB (cstep st y h rs) ∧ endB (cstep st y h rs) (y + h) ∧ ∀ x y', inBd (cstep st y h rs) x y' ↔ inBd st x y' ∨ ((y ≤ y' ∧ y' < y + h) ∧ inR rs x) := by
  unfold cstep
  by_cases h0 : rs = []
  · rw [if_pos h0]
    refine ⟨hs, fun c hc => by have := he c hc; omega, fun x y' => ?_⟩
    subst h0
    exact ⟨.inl, fun h => h.resolve_right fun h => inR_nil h.2⟩
  rw [if_neg h0]
  rcases List.eq_nil_or_concat st with rfl | ⟨l, c, rfl⟩
  · simp only [List.getLast?_nil]
    refine ⟨⟨⟨h0, hr, hh⟩, fun c hc => by simp at hc, trivial⟩, fun c hc => ?_, fun x y' => ?_⟩
    · simp only [List.getLast?_singleton, Option.some.injEq] at hc; subst hc; exact Int.le_refl _
    · rw [inB_one]; exact ⟨.inr, fun h => h.resolve_left inB_nil⟩
  · rw [List.concat_eq_append] at *
    have hl : (l ++ [c]).getLast? = some c := List.getLast?_concat
    have hd : (l ++ [c]).dropLast = l := List.dropLast_concat
    have hc := cb_app.1 hs
    have hy := he c hl
    rw [hl, hd]
    simp only
    by_cases h1 : c.y + c.h = y ∧ c.rs = rs
    · rw [if_pos h1]
      obtain ⟨h1, rfl⟩ := h1
      have h3 := hc.2.1.2.2
      refine ⟨cb_app.2 ⟨hc.1, ⟨h0, hr, by simp only; omega⟩, hc.2.2⟩, fun d hd => ?_, fun x y' => ?_⟩
      · rw [List.getLast?_concat, Option.some.injEq] at hd; subst hd; simp only; omega
      · simp only [inB_app, inB_one, or_assoc]
        constructor
        · rintro (h | ⟨h, h'⟩)
          · exact .inl h
          · by_cases h4 : y' < c.y + c.h
            · exact .inr (.inl ⟨⟨h.1, h4⟩, h'⟩)
            · exact .inr (.inr ⟨by omega, h'⟩)
        · rintro (h | ⟨h, h'⟩ | ⟨h, h'⟩)
          · exact .inl h
          · exact .inr ⟨by omega, h'⟩
          · exact .inr ⟨by omega, h'⟩
    · rw [if_neg h1]
      refine ⟨cb_app.2 ⟨hs, ⟨h0, hr, hh⟩, fun d hd => ?_⟩, fun d hd => ?_, fun x y' => ?_⟩
      · rw [hl, Option.some.injEq] at hd; subst hd
        exact ⟨hy, fun h2 h3 => h1 ⟨h2, h3⟩⟩
      · rw [List.getLast?_concat, Option.some.injEq] at hd; subst hd; exact Int.le_refl _
      · rw [inB_app, inB_one]
end Go.Rect

set_option linter.unusedSimpArgs false
set_option linter.unusedVariables false
namespace Go.Rect
def Asc : List Int → Prop
  | [] => True
  | a :: l => (∀ b ∈ l, a < b) ∧ Asc l
def canL (f : Int → List Rw) : List Bd → List Int → List Bd
  | st, y :: y2 :: l => canL f (cstep st y (y2 - y) (f y)) (y2 :: l)
  | st, _ => st
theorem canL_can {f : Int → List Rw} {S : Int → Int → Prop} {E : List Int} (hf : ∀ y, Mx (f y)) (hS : ∀ x y, inR (f y) x ↔ S x y)
    (hK : ∀ y y', (∀ e ∈ E, e ≤ y ↔ e ≤ y') → ∀ x, S x y ↔ S x y') (hO : ∀ y, (∀ e ∈ E, e ≤ y) → ∀ x, ¬ S x y) :
    ∀ (l : List Int) (st : List Bd) (y : Int), Asc (y :: l) → (∀ e ∈ E, e ≤ y ∨ e ∈ l) → CanB st → endB st y → (∀ x y', inBd st x y' ↔ y' < y ∧ S x y') →
      CanB (canL f st (y :: l)) ∧ ∀ x y', inBd (canL f st (y :: l)) x y' ↔ S x y'
  | [], st, y, ha, hE, hc, he, hi => by
    refine ⟨hc, fun x y' => ?_⟩
    simp only [canL]
    rw [hi]
    refine ⟨fun h => h.2, fun h => ⟨?_, h⟩⟩
    rcases Int.lt_or_le y' y with h1 | h1
    · exact h1
    · refine absurd h (hO y' (fun e he => ?_) x)
      have := (hE e he).resolve_right (by simp)
      omega
  | y2 :: l, st, y, ha, hE, hc, he, hi => by
    have h12 : y < y2 := ha.1 y2 (by simp)
    obtain ⟨s1, s2, s3⟩ := cstep_can (st := st) (y := y) (h := y2 - y) (rs := f y) hc (hf y) (by omega) he
    have e2 : y + (y2 - y) = y2 := by omega
    rw [e2] at s2
    simp only [canL]
    refine canL_can hf hS hK hO l _ y2 ha.2 (fun e he => ?_) s1 s2 fun x y' => ?_
    · rcases hE e he with h | h
      · exact .inl (by omega)
      · rcases List.mem_cons.1 h with h | h
        · exact .inl (by omega)
        · exact .inr h
    · rw [s3, hi, hS, e2]
      constructor
      · rintro (h | ⟨h, h'⟩)
        · exact ⟨by omega, h.2⟩
        · refine ⟨h.2, (hK y y' (fun e he => ?_) x).1 h'⟩
          rcases hE e he with h3 | h3
          · constructor <;> intro <;> omega
          · have : y2 ≤ e := by
              rcases List.mem_cons.1 h3 with h4 | h4
              · omega
              · have := ha.2.1 e h4; omega
            constructor <;> intro <;> omega
      · rintro ⟨h, h'⟩
        rcases Int.lt_or_le y' y with h1 | h1
        · exact .inl ⟨h1, h'⟩
        · refine .inr ⟨⟨h1, h⟩, (hK y y' (fun e he => ?_) x).2 h'⟩
          rcases hE e he with h3 | h3
          · constructor <;> intro <;> omega
          · have : y2 ≤ e := by
              rcases List.mem_cons.1 h3 with h4 | h4
              · omega
              · have := ha.2.1 e h4; omega
            constructor <;> intro <;> omega
end Go.Rect

set_option linter.unusedSimpArgs false
set_option linter.unusedVariables false
namespace Go.Rect
theorem mx_app : ∀ {l : List Rw} {b : Rw}, Mx (l ++ [b]) ↔ Mx l ∧ b.lo < b.hi ∧ ∀ c, l.getLast? = some c → c.hi < b.lo
  | [], b => by simp [Mx]
  | [a], b => by
    simp only [List.cons_append, List.nil_append, Mx, List.head?_cons, List.head?_nil, List.getLast?_singleton, Option.some.injEq, forall_eq', reduceCtorEq, false_implies, implies_true, true_and, and_true]
    constructor
    · rintro ⟨h1, h2, h3⟩; exact ⟨h1, h3, h2⟩
    · rintro ⟨h1, h3, h2⟩; exact ⟨h1, h2, h3⟩
  | a :: c :: l, b => by
    have ih := mx_app (l := c :: l) (b := b)
    simp only [List.cons_append] at ih ⊢
    rw [Mx, ih, List.getLast?_cons_cons]
    conv => rhs; rw [Mx]
    simp only [List.head?_cons]
    constructor
    · rintro ⟨h1, h2, h3, h4, h5⟩; exact ⟨⟨h1, h2, h3⟩, h4, h5⟩
    · rintro ⟨⟨h1, h2, h3⟩, h4, h5⟩; exact ⟨h1, h2, h3, h4, h5⟩
theorem inR_app {l m : List Rw} {x : Int} : inR (l ++ m) x ↔ inR l x ∨ inR m x := by
  simp only [inR, List.mem_append, or_and_right, exists_or]
theorem inR_one {b : Rw} {x : Int} : inR [b] x ↔ b.lo ≤ x ∧ x < b.hi := by
  rw [inR_cons]; exact ⟨fun h => h.resolve_right inR_nil, .inl⟩
def rstep (st : List Rw) (x x2 : Int) (g : Bool) : List Rw :=
  if g = false then st else
  match st.getLast? with
  | none => [⟨x, x2⟩]
  | some c => if c.hi = x then st.dropLast ++ [⟨c.lo, x2⟩] else st ++ [⟨x, x2⟩]
def endR (st : List Rw) (x : Int) : Prop := ∀ c, st.getLast? = some c → c.hi ≤ x
theorem rstep_mx {st : List Rw} {x x2 : Int} {g : Bool} (hs : Mx st) (hh : x < x2) (he : endR st x) :
    Mx (rstep st x x2 g) ∧ endR (rstep st x x2 g) x2 ∧ ∀ z, inR (rstep st x x2 g) z ↔ inR st z ∨ ((x ≤ z ∧ z < x2) ∧ g = true) := by
  unfold rstep
  cases g with
  | false =>
    rw [if_pos rfl]
    exact ⟨hs, fun c hc => by have := he c hc; omega, fun z => ⟨.inl, fun h => h.resolve_right fun h => by cases h.2⟩⟩
  | true =>
  rw [if_neg (by decide)]
  simp only [and_true]
  rcases List.eq_nil_or_concat st with rfl | ⟨l, c, rfl⟩
  · simp only [List.getLast?_nil]
    refine ⟨⟨hh, fun c hc => by simp at hc, trivial⟩, fun c hc => ?_, fun z => ?_⟩
    · simp only [List.getLast?_singleton, Option.some.injEq] at hc; subst hc; exact Int.le_refl _
    · rw [inR_one]; exact ⟨.inr, fun h => h.resolve_left inR_nil⟩
  · rw [List.concat_eq_append] at *
    have hl : (l ++ [c]).getLast? = some c := List.getLast?_concat
    have hd : (l ++ [c]).dropLast = l := List.dropLast_concat
    have hc := mx_app.1 hs
    have hy := he c hl
    rw [hl, hd]
    simp only
    have h3 := hc.2.1
    by_cases h1 : c.hi = x
    · rw [if_pos h1]
      subst h1
      refine ⟨mx_app.2 ⟨hc.1, by simp only; omega, hc.2.2⟩, fun d hd => ?_, fun z => ?_⟩
      · rw [List.getLast?_concat, Option.some.injEq] at hd; subst hd; exact Int.le_refl _
      · simp only [inR_app, inR_one, or_assoc]
        constructor
        · rintro (h | h)
          · exact .inl h
          · by_cases h4 : z < c.hi
            · exact .inr (.inl ⟨h.1, h4⟩)
            · exact .inr (.inr (by omega))
        · rintro (h | h | h)
          · exact .inl h
          · exact .inr (by omega)
          · exact .inr (by omega)
    · rw [if_neg h1]
      refine ⟨mx_app.2 ⟨hs, hh, fun d hd => ?_⟩, fun d hd => ?_, fun z => ?_⟩
      · rw [hl, Option.some.injEq] at hd; subst hd; simp only; omega
      · rw [List.getLast?_concat, Option.some.injEq] at hd; subst hd; exact Int.le_refl _
      · rw [inR_app, inR_one]
def runC (g : Int → Bool) : List Rw → List Int → List Rw
  | st, x :: x2 :: l => runC g (rstep st x x2 (g x)) (x2 :: l)
  | st, _ => st
theorem runL_mx {g : Int → Bool} {E : List Int}
    (hK : ∀ y y', (∀ e ∈ E, e ≤ y ↔ e ≤ y') → g y = g y') (hO : ∀ y, (∀ e ∈ E, e ≤ y) → g y = false) :
    ∀ (l : List Int) (st : List Rw) (y : Int), Asc (y :: l) → (∀ e ∈ E, e ≤ y ∨ e ∈ l) → Mx st → endR st y → (∀ z, inR st z ↔ z < y ∧ g z = true) →
      Mx (runC g st (y :: l)) ∧ ∀ z, inR (runC g st (y :: l)) z ↔ g z = true
  | [], st, y, ha, hE, hc, he, hi => by
    refine ⟨hc, fun z => ?_⟩
    simp only [runC]
    rw [hi]
    refine ⟨fun h => h.2, fun h => ⟨?_, h⟩⟩
    rcases Int.lt_or_le z y with h1 | h1
    · exact h1
    · rw [hO z (fun e he => by have := (hE e he).resolve_right (by simp); omega)] at h; cases h
  | y2 :: l, st, y, ha, hE, hc, he, hi => by
    have h12 : y < y2 := ha.1 y2 (by simp)
    obtain ⟨s1, s2, s3⟩ := rstep_mx (st := st) (x := y) (x2 := y2) (g := g y) hc h12 he
    have hg : ∀ z, y ≤ z → z < y2 → g y = g z := fun z h1 h2 => hK y z fun e he => by
      rcases hE e he with h3 | h3
      · constructor <;> intro <;> omega
      · have : y2 ≤ e := by
          rcases List.mem_cons.1 h3 with h4 | h4
          · omega
          · have := ha.2.1 e h4; omega
        constructor <;> intro <;> omega
    simp only [runC]
    refine runL_mx hK hO l _ y2 ha.2 (fun e he => ?_) s1 s2 fun z => ?_
    · rcases hE e he with h | h
      · exact .inl (by omega)
      · rcases List.mem_cons.1 h with h | h
        · exact .inl (by omega)
        · exact .inr h
    · rw [s3, hi]
      constructor
      · rintro (h | ⟨h, h'⟩)
        · exact ⟨by omega, h.2⟩
        · exact ⟨h.2, by rw [← hg z h.1 h.2]; exact h'⟩
      · rintro ⟨h, h'⟩
        rcases Int.lt_or_le z y with h1 | h1
        · exact .inl ⟨h1, h'⟩
        · exact .inr ⟨⟨h1, h⟩, by rw [hg z h1 h]; exact h'⟩
end Go.Rect

set_option linter.unusedSimpArgs false
set_option linter.unusedVariables false
namespace Go.Rect
def mstep (st : List Rw) (p : Rw) : List Rw :=
  match st.getLast? with
  | none => [p]
  | some c => if p.lo ≤ c.hi then st.dropLast ++ [⟨c.lo, max c.hi p.hi⟩] else st ++ [p]
def mergeL (st : List Rw) : List Rw → List Rw
  | p :: l => mergeL (mstep st p) l
  | [] => st
def SrtL : List Rw → Prop
  | [] => True
  | p :: l => (∀ q ∈ l, p.lo ≤ q.lo) ∧ SrtL l
theorem merge_mx : ∀ {l st : List Rw}, SrtL l → (∀ p ∈ l, p.lo < p.hi) → Mx st → (∀ c, st.getLast? = some c → ∀ p ∈ l, c.lo ≤ p.lo) →
    Mx (mergeL st l) ∧ ∀ z, inR (mergeL st l) z ↔ inR st z ∨ inR l z
  | [], st, _, _, hm, _ => ⟨hm, fun z => ⟨.inl, fun h => h.resolve_right inR_nil⟩⟩
  | p :: l, st, hs, hp, hm, hc => by
    have hp0 := hp p (by simp)
    have hpl : ∀ q ∈ l, q.lo < q.hi := fun q hq => hp q (by simp [hq])
    simp only [mergeL]
    rcases List.eq_nil_or_concat st with rfl | ⟨k, c, rfl⟩
    · have := merge_mx (l := l) (st := mstep [] p) hs.2 hpl ⟨hp0, fun q hq => by simp at hq, trivial⟩ fun c h q hq => by
        simp only [mstep, List.getLast?_nil, List.getLast?_singleton, Option.some.injEq] at h; subst h; exact hs.1 q hq
      refine ⟨this.1, fun z => ?_⟩
      rw [this.2, inR_cons (l := l)]
      simp only [mstep, List.getLast?_nil, inR_one]
      exact ⟨.inr, fun h => h.resolve_left inR_nil⟩
    · rw [List.concat_eq_append] at *
      have hl : (k ++ [c]).getLast? = some c := List.getLast?_concat
      have hd : (k ++ [c]).dropLast = k := List.dropLast_concat
      have hk := mx_app.1 hm
      have h0 := hc c hl p (by simp)
      have h3 := hk.2.1
      by_cases h1 : p.lo ≤ c.hi
      · have e : mstep (k ++ [c]) p = k ++ [⟨c.lo, max c.hi p.hi⟩] := by simp only [mstep, hl, hd]; rw [if_pos h1]
        rw [e]
        have := merge_mx (l := l) (st := k ++ [⟨c.lo, max c.hi p.hi⟩]) hs.2 hpl (mx_app.2 ⟨hk.1, by simp only; omega, hk.2.2⟩) fun d h q hq => by
          rw [List.getLast?_concat, Option.some.injEq] at h; subst h
          exact hc c hl q (by simp [hq])
        refine ⟨this.1, fun z => ?_⟩
        rw [this.2, inR_cons (l := l), inR_app, inR_app, inR_one, inR_one, or_assoc, or_assoc]
        simp only
        constructor
        · rintro (h | h | h)
          · exact .inl h
          · by_cases h4 : z < c.hi
            · exact .inr (.inl ⟨h.1, h4⟩)
            · exact .inr (.inr (.inl (by omega)))
          · exact .inr (.inr (.inr h))
        · rintro (h | h | h | h)
          · exact .inl h
          · exact .inr (.inl (by omega))
          · exact .inr (.inl (by omega))
          · exact .inr (.inr h)
      · have e : mstep (k ++ [c]) p = (k ++ [c]) ++ [p] := by simp only [mstep, hl]; rw [if_neg h1]
        rw [e]
        have := merge_mx (l := l) (st := (k ++ [c]) ++ [p]) hs.2 hpl (mx_app.2 ⟨hm, hp0, fun d h => by rw [hl, Option.some.injEq] at h; subst h; omega⟩) fun d h q hq => by
          rw [List.getLast?_concat, Option.some.injEq] at h; subst h
          exact hs.1 q hq
        refine ⟨this.1, fun z => ?_⟩
        rw [this.2, inR_cons (l := l), inR_app (m := [p]), inR_one, or_assoc]
end Go.Rect

set_option linter.unusedSimpArgs false
set_option linter.unusedVariables false
namespace Go.Rect
def atR : List Rw → Int → Bool
  | [], _ => false
  | p :: l, x => if p.hi ≤ x then atR l x else decide (p.lo ≤ x)
theorem atR_in : ∀ {a : List Rw} {x : Int}, Mx a → (atR a x = true ↔ inR a x)
  | [], x, _ => ⟨fun h => by simp [atR] at h, fun h => absurd h inR_nil⟩
  | p :: l, x, hm => by
    rw [atR, inR_cons]
    by_cases h : p.hi ≤ x
    · rw [if_pos h, atR_in hm.2.2]
      exact ⟨.inr, fun h' => h'.resolve_left fun h2 => by omega⟩
    · rw [if_neg h, decide_eq_true_eq]
      refine ⟨fun h' => .inl ⟨h', by omega⟩, ?_⟩
      rintro (h' | h')
      · exact h'.1
      · have := mx_tl hm h'; omega
def twL : List Rw → Int → Nat
  | [], _ => 0
  | p :: l, x => if p.hi ≤ x then twL l x + 1 else 0
theorem tw_le : ∀ (a : List Rw) (x : Int), twL a x ≤ a.length
  | [], _ => Nat.le_refl _
  | p :: l, x => by
    rw [twL]; split
    · have := tw_le l x; simp only [List.length_cons]; omega
    · exact Nat.zero_le _
theorem tw_at : ∀ (a : List Rw) (x : Int) (d : Rw), (decide (twL a x < a.length) && decide ((a.getD (twL a x) d).lo ≤ x)) = atR a x
  | [], x, d => by simp [twL, atR]
  | p :: l, x, d => by
    rw [twL, atR]
    by_cases h : p.hi ≤ x
    · rw [if_pos h, if_pos h, ← tw_at l x d, List.getD_cons_succ, List.length_cons]
      congr 1
      simp only [Nat.add_lt_add_iff_right]
    · rw [if_neg h, if_neg h, List.getD_cons_zero]
      simp
theorem tw_lt : ∀ {a : List Rw} {x : Int} {d : Rw} {i : Nat}, i < twL a x → (a.getD i d).hi ≤ x
  | [], x, d, i, h => by simp [twL] at h
  | p :: l, x, d, i, h => by
    rw [twL] at h
    by_cases h1 : p.hi ≤ x
    · rw [if_pos h1] at h
      cases i with
      | zero => exact h1
      | succ i => rw [List.getD_cons_succ]; exact tw_lt (by omega)
    · rw [if_neg h1] at h; omega
theorem tw_ge : ∀ {a : List Rw} {x : Int} {d : Rw}, twL a x < a.length → x < (a.getD (twL a x) d).hi
  | [], x, d, h => by simp at h
  | p :: l, x, d, h => by
    rw [twL] at h ⊢
    by_cases h1 : p.hi ≤ x
    · rw [if_pos h1] at h ⊢
      rw [List.getD_cons_succ]; exact tw_ge (by simp only [List.length_cons] at h; omega)
    · rw [if_neg h1, List.getD_cons_zero]; omega
theorem tw_mono : ∀ {a : List Rw} {x y : Int}, x ≤ y → twL a x ≤ twL a y
  | [], _, _, _ => Nat.le_refl _
  | p :: l, x, y, h => by
    rw [twL, twL]
    by_cases h1 : p.hi ≤ x
    · rw [if_pos h1, if_pos (by omega)]; have := tw_mono (a := l) h; omega
    · rw [if_neg h1]; exact Nat.zero_le _
end Go.Rect

set_option linter.unusedSimpArgs false
set_option linter.unusedVariables false
namespace Go.Rect
def AscW : List Int → Prop
  | [] => True
  | a :: l => (∀ b ∈ l, a ≤ b) ∧ AscW l
def cmpL : List Int → List Int
  | a :: b :: l => if a = b then cmpL (b :: l) else a :: cmpL (b :: l)
  | l => l
theorem cmp_mem : ∀ {l : List Int} {x : Int}, x ∈ cmpL l ↔ x ∈ l
  | [], x => Iff.rfl
  | [a], x => Iff.rfl
  | a :: b :: l, x => by
    rw [cmpL]
    split
    · rename_i h
      rw [cmp_mem]; subst h; simp
    · rw [List.mem_cons, cmp_mem]; simp
theorem cmp_asc : ∀ {l : List Int}, AscW l → Asc (cmpL l)
  | [], _ => trivial
  | [a], _ => ⟨fun b h => by simp at h, trivial⟩
  | a :: b :: l, h => by
    rw [cmpL]
    split
    · exact cmp_asc h.2
    · rename_i hn
      refine ⟨fun c hc => ?_, cmp_asc h.2⟩
      have h1 := h.1 b (by simp)
      rcases List.mem_cons.1 (cmp_mem.1 hc) with h2 | h2
      · omega
      · have := h.2.1 c h2; omega
def insU (n : Int) : List Int → List Int
  | [] => [n]
  | a :: l => if a < n then a :: insU n l else if a = n then a :: l else n :: a :: l
theorem insU_mem : ∀ {l : List Int} {n x : Int}, x ∈ insU n l ↔ x = n ∨ x ∈ l
  | [], n, x => by simp [insU]
  | a :: l, n, x => by
    rw [insU]
    split
    · rw [List.mem_cons, insU_mem, List.mem_cons]
      constructor
      · rintro (h | h | h) <;> simp [h]
      · rintro (h | h | h) <;> simp [h]
    · split
      · rename_i h; subst h; simp
      · simp
theorem insU_asc : ∀ {l : List Int} {n : Int}, Asc l → Asc (insU n l)
  | [], n, _ => ⟨fun b h => by simp at h, trivial⟩
  | a :: l, n, h => by
    rw [insU]
    split
    · rename_i h1
      refine ⟨fun b hb => ?_, insU_asc h.2⟩
      rcases insU_mem.1 hb with h2 | h2
      · omega
      · exact h.1 b h2
    · split
      · exact h
      · refine ⟨fun b hb => ?_, h⟩
        rcases List.mem_cons.1 hb with h2 | h2
        · omega
        · have := h.1 b h2; omega
def srtU : List Int → List Int → List Int
  | st, n :: l => srtU (insU n st) l
  | st, [] => st
theorem srtU_spec : ∀ {l st : List Int}, Asc st → Asc (srtU st l) ∧ ∀ x, x ∈ srtU st l ↔ x ∈ st ∨ x ∈ l
  | [], st, h => ⟨h, fun x => by simp [srtU]⟩
  | n :: l, st, h => by
    have := srtU_spec (l := l) (insU_asc (n := n) h)
    refine ⟨this.1, fun x => ?_⟩
    rw [srtU, this.2, insU_mem, List.mem_cons]
    constructor
    · rintro ((h | h) | h) <;> simp [h]
    · rintro (h | h | h) <;> simp [h]
end Go.Rect

set_option linter.unusedSimpArgs false
set_option linter.unusedVariables false
namespace Go.Rect
def hasI (r : Rc) (x y : Int) : Prop := (r.x ≤ x ∧ x < r.x + r.w) ∧ (r.y ≤ y ∧ y < r.y + r.h)
def inLs (l : List Rc) (x y : Int) : Prop := ∃ r ∈ l, hasI r x y
def rowP : List Rc → Int → List Rw
  | [], _ => []
  | r :: l, y => if r.y ≤ y ∧ y < r.y + r.h then ⟨r.x, r.x + r.w⟩ :: rowP l y else rowP l y
def Pos (l : List Rc) : Prop := ∀ r ∈ l, 0 < r.w ∧ 0 < r.h
theorem inL_nil {x y : Int} : ¬ inLs [] x y := fun ⟨_, h, _⟩ => by cases h
theorem inL_cons {r : Rc} {l : List Rc} {x y : Int} : inLs (r :: l) x y ↔ hasI r x y ∨ inLs l x y := by
  simp only [inLs, List.mem_cons, exists_eq_or_imp]
theorem rowP_in : ∀ {l : List Rc} {x y : Int}, inR (rowP l y) x ↔ inLs l x y
  | [], x, y => ⟨fun h => absurd h inR_nil, fun h => absurd h inL_nil⟩
  | r :: l, x, y => by
    rw [rowP, inL_cons]
    split
    · rename_i h
      rw [inR_cons, rowP_in]
      exact ⟨fun h' => h'.imp (fun h2 => ⟨h2, h⟩) id, fun h' => h'.imp (fun h2 => h2.1) id⟩
    · rename_i h
      rw [rowP_in]
      exact ⟨.inr, fun h' => h'.resolve_left fun h2 => h h2.2⟩
theorem rowP_pos : ∀ {l : List Rc} {y : Int}, Pos l → ∀ p ∈ rowP l y, p.lo < p.hi
  | [], _, _, p, h => by simp [rowP] at h
  | r :: l, y, hp, p, h => by
    rw [rowP] at h
    split at h
    · rcases List.mem_cons.1 h with h1 | h1
      · subst h1; have := (hp r (by simp)).1; simp only; omega
      · exact rowP_pos (fun q hq => hp q (by simp [hq])) p h1
    · exact rowP_pos (fun q hq => hp q (by simp [hq])) p h
def leR (p q : Rw) : Bool := decide (p.lo < q.lo) || (decide (p.lo = q.lo) && decide (p.hi ≤ q.hi))
theorem pw_srt : ∀ {l : List Rw}, l.Pairwise (fun p q => leR p q = true) → SrtL l
  | [], _ => trivial
  | p :: l, h => by
    rw [List.pairwise_cons] at h
    refine ⟨fun q hq => ?_, pw_srt h.2⟩
    have := h.1 q hq
    simp only [leR, Bool.or_eq_true, Bool.and_eq_true, decide_eq_true_eq] at this
    omega
def rowF (l : List Rc) (y : Int) : List Rw := mergeL [] ((rowP l y).mergeSort leR)
theorem rowF_spec {l : List Rc} {y : Int} (hp : Pos l) : Mx (rowF l y) ∧ ∀ x, inR (rowF l y) x ↔ inLs l x y := by
  have hs : SrtL ((rowP l y).mergeSort leR) := pw_srt (List.pairwise_mergeSort
    (fun a b c h1 h2 => by simp only [leR, Bool.or_eq_true, Bool.and_eq_true, decide_eq_true_eq] at *; omega)
    (fun a b => by simp only [leR, Bool.or_eq_true, Bool.and_eq_true, decide_eq_true_eq]; omega) _)
  have hm : ∀ p, p ∈ (rowP l y).mergeSort leR ↔ p ∈ rowP l y := fun p => List.mem_mergeSort
  have := merge_mx (st := []) hs (fun p h => rowP_pos hp p ((hm p).1 h)) trivial (fun c h => by simp at h)
  refine ⟨this.1, fun x => ?_⟩
  rw [rowF, this.2, ← rowP_in]
  simp only [inR, hm]
  exact ⟨fun h => h.resolve_left (fun ⟨_, h, _⟩ => by cases h), .inr⟩
end Go.Rect

set_option linter.unusedSimpArgs false
set_option linter.unusedVariables false
namespace Go.Rect
def edR : List Rw → List Int
  | [] => []
  | p :: l => p.lo :: p.hi :: edR l
theorem atR_K : ∀ {a : List Rw} {y y' : Int}, (∀ e ∈ edR a, e ≤ y ↔ e ≤ y') → atR a y = atR a y'
  | [], _, _, _ => rfl
  | p :: l, y, y', h => by
    have h1 := h p.lo (by simp [edR])
    have h2 := h p.hi (by simp [edR])
    rw [atR, atR, atR_K (a := l) fun e he => h e (by simp [edR, he])]
    simp only [h1, h2]
theorem atR_O : ∀ {a : List Rw} {y : Int}, (∀ e ∈ edR a, e ≤ y) → atR a y = false
  | [], _, _ => rfl
  | p :: l, y, h => by
    have h2 := h p.hi (by simp [edR])
    rw [atR, if_pos h2, atR_O (a := l) fun e he => h e (by simp [edR, he])]
theorem atR_B : ∀ {a : List Rw} {y : Int}, (∀ p ∈ a, p.lo < p.hi) → (∀ e ∈ edR a, y < e) → atR a y = false
  | [], _, _, _ => rfl
  | p :: l, y, _, h => by
    have h1 := h p.lo (by simp [edR])
    have h2 := h p.hi (by simp [edR])
    rw [atR, if_neg (by omega), decide_eq_false_iff_not]; omega
theorem runL_all {g : Int → Bool} {E xs : List Int} (hx : Asc xs) (hE : ∀ e, e ∈ xs ↔ e ∈ E)
    (hK : ∀ y y', (∀ e ∈ E, e ≤ y ↔ e ≤ y') → g y = g y') (hO : ∀ y, (∀ e ∈ E, e ≤ y) → g y = false) (hB : ∀ y, (∀ e ∈ E, y < e) → g y = false) :
    Mx (runC g [] xs) ∧ ∀ z, inR (runC g [] xs) z ↔ g z = true := by
  cases xs with
  | nil =>
    refine ⟨trivial, fun z => ⟨fun h => absurd h inR_nil, fun h => ?_⟩⟩
    rw [hO z fun e he => absurd ((hE e).2 he) (by simp)] at h; cases h
  | cons x xs =>
    refine runL_mx hK hO xs [] x hx (fun e he => ?_) trivial (fun c h => by simp at h) fun z => ⟨fun h => absurd h inR_nil, fun h => ?_⟩
    · rcases List.mem_cons.1 ((hE e).2 he) with h | h
      · exact .inl (by omega)
      · exact .inr h
    · have h2 := h.2
      rw [hB z fun e he => by
        rcases List.mem_cons.1 ((hE e).2 he) with h3 | h3
        · omega
        · have := hx.1 e h3; omega] at h2
      cases h2
theorem canL_all {f : Int → List Rw} {S : Int → Int → Prop} {E ys : List Int} (hf : ∀ y, Mx (f y)) (hS : ∀ x y, inR (f y) x ↔ S x y)
    (hy : Asc ys) (hE : ∀ e, e ∈ ys ↔ e ∈ E)
    (hK : ∀ y y', (∀ e ∈ E, e ≤ y ↔ e ≤ y') → ∀ x, S x y ↔ S x y') (hO : ∀ y, (∀ e ∈ E, e ≤ y) → ∀ x, ¬ S x y) (hB : ∀ y, (∀ e ∈ E, y < e) → ∀ x, ¬ S x y) :
    CanB (canL f [] ys) ∧ ∀ x y, inBd (canL f [] ys) x y ↔ S x y := by
  cases ys with
  | nil => exact ⟨trivial, fun x y => ⟨fun h => absurd h inB_nil, fun h => absurd h (hO y (fun e he => absurd ((hE e).2 he) (by simp)) x)⟩⟩
  | cons y ys =>
    refine canL_can hf hS hK hO ys [] y hy (fun e he => ?_) trivial (fun c h => by simp at h) fun x y' => ⟨fun h => absurd h inB_nil, fun h => ?_⟩
    · rcases List.mem_cons.1 ((hE e).2 he) with h | h
      · exact .inl (by omega)
      · exact .inr h
    · refine absurd h.2 (hB y' (fun e he => ?_) x)
      rcases List.mem_cons.1 ((hE e).2 he) with h3 | h3
      · omega
      · have := hy.1 e h3; omega
theorem mx_pos : ∀ {a : List Rw}, Mx a → ∀ p ∈ a, p.lo < p.hi
  | [], _, p, h => by cases h
  | q :: l, hm, p, h => by
    rcases List.mem_cons.1 h with h1 | h1
    · rw [h1]; exact hm.1
    · exact mx_pos hm.2.2 p h1
theorem comb_spec {keep : Bool → Bool → Bool} (h0 : keep false false = false) {A B : List Rw} (hA : Mx A) (hB : Mx B) {xs : List Int} (hx : Asc xs) (hE : ∀ e, e ∈ xs ↔ e ∈ edR A ++ edR B) :
    Mx (runC (fun x => keep (atR A x) (atR B x)) [] xs) ∧ ∀ z, inR (runC (fun x => keep (atR A x) (atR B x)) [] xs) z ↔ keep (atR A z) (atR B z) = true := by
  refine runL_all hx hE (fun y y' h => ?_) (fun y h => ?_) fun y h => ?_
  · rw [atR_K (a := A) fun e he => h e (by simp [he]), atR_K (a := B) fun e he => h e (by simp [he])]
  · rw [atR_O (a := A) fun e he => h e (by simp [he]), atR_O (a := B) fun e he => h e (by simp [he]), h0]
  · rw [atR_B (a := A) (mx_pos hA) fun e he => h e (by simp [he]), atR_B (a := B) (mx_pos hB) fun e he => h e (by simp [he]), h0]
end Go.Rect

set_option linter.unusedVariables false
set_option linter.unusedSectionVars false
namespace Go.Rect
open Go.Eng
theorem span_spec {x w : Int} : spanB x w = true ↔ -1048576 ≤ x ∧ x ≤ 1048576 ∧ 0 ≤ w ∧ w ≤ 1048576 - x := by
  simp only [spanB, Bool.and_eq_true, decide_eq_true_eq, and_assoc]
theorem valid_spec {r : Rc} : validB r = true ↔ (-1048576 ≤ r.x ∧ r.x ≤ 1048576 ∧ 0 ≤ r.w ∧ r.w ≤ 1048576 - r.x) ∧ (-1048576 ≤ r.y ∧ r.y ≤ 1048576 ∧ 0 ≤ r.h ∧ r.h ≤ 1048576 - r.y) := by
  simp only [validB, Bool.and_eq_true, span_spec]
theorem empty_spec {r : Rc} : emptyB r = false ↔ (-1048576 ≤ r.x ∧ r.x ≤ 1048576 ∧ 0 < r.w ∧ r.w ≤ 1048576 - r.x) ∧ (-1048576 ≤ r.y ∧ r.y ≤ 1048576 ∧ 0 < r.h ∧ r.h ≤ 1048576 - r.y) := by
  simp only [emptyB, Bool.or_eq_false_iff, Bool.not_eq_false', valid_spec, beq_eq_false_iff_ne, ne_eq]; omega
theorem fin_rv1 {r : Rc} (hc : ((r.x < -1048576 ∨ 1048576 < r.x) ∨ r.y < -1048576) ∨ 1048576 < r.y) : false = validB r := by
  symm; rw [Bool.eq_false_iff]; intro h; have := valid_spec.1 h; omega
theorem fin_rv2 {r : Rc} (hc : ((-1048576 ≤ r.x ∧ r.x ≤ 1048576) ∧ -1048576 ≤ r.y) ∧ r.y ≤ 1048576) : (decide (0 ≤ r.w) && decide (0 ≤ r.h) && decide (r.w ≤ IntKind.i64.wrap (1048576 - r.x)) && decide (r.h ≤ IntKind.i64.wrap (1048576 - r.y))) = validB r := by
  simp (disch := omega) only [w64]; rw [Bool.eq_iff_iff, valid_spec]; simp only [Bool.and_eq_true, decide_eq_true_eq]; omega
theorem fin_has {r : Rc} {p : Pt} : (validB r && decide (r.x ≤ p.x) && decide (p.x < IntKind.i64.wrap (r.x + r.w)) && decide (r.y ≤ p.y) && decide (p.y < IntKind.i64.wrap (r.y + r.h))) = hasB r p := by
  cases hv : validB r
  · simp [hasB, hv]
  · have := valid_spec.1 hv; simp (disch := omega) only [w64]; simp only [hasB, hv]
theorem ne_of {r : Rc} (h : (validB r = true ∧ ¬r.w = 0) ∧ ¬r.h = 0) : emptyB r = false := by
  have := valid_spec.1 h.1.1; rw [empty_spec]; omega
theorem fin_sp1 {r : Rc} {n : Int} (hc : (validB r = false ∨ r.w = 0) ∨ r.h = 0) : 0 = spanS r n ∧ -1 = spanE r n := by
  have : emptyB r = true := by simp only [emptyB, Bool.or_eq_true, beq_iff_eq, Bool.not_eq_true']; exact hc
  simp [spanS, spanE, this]
theorem fin_sp2 {r : Rc} {n : Int} (h : (validB r = true ∧ ¬r.w = 0) ∧ ¬r.h = 0) (hc : n = 0) : r.x = spanS r n ∧ IntKind.i64.wrap (IntKind.i64.wrap (r.x + r.w) - 1) = spanE r n := by
  have h1 := ne_of h; have h2 := empty_spec.1 h1; subst hc; simp (disch := omega) only [w64]; simp [spanS, spanE, h1]
theorem fin_sp3 {r : Rc} {n : Int} (h : (validB r = true ∧ ¬r.w = 0) ∧ ¬r.h = 0) (hc : ¬ n = 0) : r.y = spanS r n ∧ IntKind.i64.wrap (IntKind.i64.wrap (r.y + r.h) - 1) = spanE r n := by
  have h1 := ne_of h; have h2 := empty_spec.1 h1; simp (disch := omega) only [w64]; simp [spanS, spanE, h1, hc]
theorem fin_a1 {r : Rc} (hc : emptyB r = true) : 0 = areaI r := by simp [areaI, hc]
theorem area_bd {r : Rc} (hc : emptyB r = false) : 0 < r.w * r.h ∧ r.w * r.h ≤ 4398046511104 := by
  have h := empty_spec.1 hc
  refine ⟨Int.mul_pos h.1.2.2.1 h.2.2.2.1, ?_⟩
  have h1 : r.w * r.h ≤ 2097152 * r.h := Int.mul_le_mul_of_nonneg_right (by omega) (by omega)
  omega
theorem fin_a2 {r : Rc} (hc : emptyB r = false) : IntKind.i64.wrap (r.w * r.h) = areaI r := by
  have := area_bd hc; rw [w64 (by omega) (by omega)]; simp [areaI, hc]
theorem fe {r r' : Rc} (h : r = r') : r.x = r'.x ∧ r.y = r'.y ∧ r.w = r'.w ∧ r.h = r'.h := by subst h; exact ⟨rfl, rfl, rfl, rfl⟩
theorem Rc.ext' {r r' : Rc} (h : r.x = r'.x ∧ r.y = r'.y ∧ r.w = r'.w ∧ r.h = r'.h) : r = r' := by
  cases r; cases r'; simpa using h
theorem fin_b1 {x0 y0 x1 y1 : Int} (hc : min x1 1048576 ≤ max x0 (-1048576) ∨ min y1 1048576 ≤ max y0 (-1048576)) : zR = betweenR x0 y0 x1 y1 := by rw [betweenR, if_pos hc]
theorem fin_b2 {x0 y0 x1 y1 : Int} (hc : max x0 (-1048576) < min x1 1048576 ∧ max y0 (-1048576) < min y1 1048576) :
    (⟨max x0 (-1048576), max y0 (-1048576), IntKind.i64.wrap (min x1 1048576 - max x0 (-1048576)), IntKind.i64.wrap (min y1 1048576 - max y0 (-1048576))⟩ : Rc) = betweenR x0 y0 x1 y1 := by
  rw [betweenR, if_neg (by omega), w64 (by omega) (by omega), w64 (by omega) (by omega)]
theorem fin_o1 {x0 x1 y0 y1 : Int} (hc : x1 < x0 ∨ y1 < y0) : zR = ofR x0 x1 y0 y1 := by rw [ofR, if_pos hc]
theorem fin_o2 {x0 x1 y0 y1 : Int} (h1 : -4611686018427387904 ≤ x0) (h2 : x1 ≤ 4611686018427387900) (h3 : -4611686018427387904 ≤ y0) (h4 : y1 ≤ 4611686018427387900) (hc : x0 ≤ x1 ∧ y0 ≤ y1) :
    (⟨x0, y0, IntKind.i64.wrap (IntKind.i64.wrap (x1 - x0) + 1), IntKind.i64.wrap (IntKind.i64.wrap (y1 - y0) + 1)⟩ : Rc) = ofR x0 x1 y0 y1 := by
  rw [ofR, if_neg (by omega), w64 (n := x1 - x0) (by omega) (by omega), w64 (n := y1 - y0) (by omega) (by omega), w64 (by omega) (by omega), w64 (by omega) (by omega)]
theorem sp_ne {r : Rc} (h : emptyB r = false) : spanS r 0 = r.x ∧ spanE r 0 = r.x + r.w - 1 ∧ spanS r 1 = r.y ∧ spanE r 1 = r.y + r.h - 1 := by simp [spanS, spanE, h]
theorem fin_t {n : Int} (h1 : -1048576 ≤ n) (h2 : n ≤ 4194304) : IntKind.i64.wrap (IntKind.i64.wrap ((IntKind.i64.wrap (n + 1048576)).tdiv 16) - 65536) = tileI n := by
  rw [w64 (n := n + 1048576) (by omega) (by omega), Int.tdiv_eq_ediv_of_nonneg (by omega), w64 (n := (n + 1048576) / 16) (by omega) (by omega), w64 (by omega) (by omega), tileI]
theorem fin_j1 {a b : Rc} (hc : emptyB a = true ∧ emptyB b = true) : zR = joinR a b := by rw [joinR, if_pos (by simpa using hc)]
theorem fin_j2 {a b : Rc} (h : (emptyB a && emptyB b) = false) (hc : emptyB a = true) : b = joinR a b := by
  have : emptyB b = false := by simp_all
  simp [joinR, hc, this]
theorem fin_j3 {a b : Rc} (h : emptyB a = false) (hc : emptyB b = true) : a = joinR a b := by simp [joinR, hc, h]
theorem fin_j4 {a b : Rc} (ha : emptyB a = false) (hb : emptyB b = false) : betweenR (min a.x b.x) (min a.y b.y) (max (IntKind.i64.wrap (a.x + a.w)) (IntKind.i64.wrap (b.x + b.w))) (max (IntKind.i64.wrap (a.y + a.h)) (IntKind.i64.wrap (b.y + b.h))) = joinR a b := by
  have := empty_spec.1 ha; have := empty_spec.1 hb
  simp (disch := omega) only [w64]; simp [joinR, ha, hb]
theorem lim4_bd (n : Int) : -4194304 ≤ lim4 n ∧ lim4 n ≤ 4194304 := by unfold lim4; omega
theorem lim34 (n : Int) : lim3 n = lim4 n ∨ (3145728 ≤ lim3 n ∧ 3145728 ≤ lim4 n) ∨ (lim3 n ≤ -3145728 ∧ lim4 n ≤ -3145728) := by unfold lim3 lim4; omega
theorem lim3_bd (n : Int) : -3145728 ≤ lim3 n ∧ lim3 n ≤ 3145728 := by unfold lim3; omega
theorem fin_zg {r : Rc} {n : Int} (hc : emptyB r = true) : zR = growR r n := by simp [growR, hc]
theorem ax_in {x w l l' : Int} (h1 : -1048576 ≤ x) (h2 : 0 < w) (h3 : w ≤ 1048576 - x) (hl : l = l' ∨ (3145728 ≤ l ∧ 3145728 ≤ l') ∨ (l ≤ -3145728 ∧ l' ≤ -3145728)) (k k' : Int) (hk : k = k' ∨ (3145728 ≤ k ∧ 3145728 ≤ k') ∨ (k ≤ -3145728 ∧ k' ≤ -3145728)) (hs : l = k ∨ l = -k) (hs' : l' = k' ∨ l' = -k') (hm : l = k ↔ l' = k') :
    (min (x + w - 1 + k) 1048575 < max (x + l) (-1048576) ↔ min (x + w + k') 1048576 ≤ max (x + l') (-1048576)) ∧
    (¬ min (x + w - 1 + k) 1048575 < max (x + l) (-1048576) → max (x + l) (-1048576) = max (x + l') (-1048576) ∧ min (x + w - 1 + k) 1048575 - max (x + l) (-1048576) + 1 = min (x + w + k') 1048576 - max (x + l') (-1048576)) := by
  have key : (l = l' ∧ k = k') ∨ (l = l' → k = k' → False) := by
    by_cases h : l = l' ∧ k = k'
    · exact .inl h
    · exact .inr fun a b => h ⟨a, b⟩
  rcases key with ⟨rfl, rfl⟩ | hne
  · clear hl hk hs hs' hm; constructor
    · constructor <;> (intro h; omega)
    · intro h; omega
  · rcases hl with rfl | ⟨a1, a2⟩ | ⟨a1, a2⟩ <;> rcases hk with rfl | ⟨b1, b2⟩ | ⟨b1, b2⟩
    all_goals (constructor <;> first | (constructor <;> (intro h; omega)) | (intro h; omega))
theorem fin_gr {r : Rc} {n : Int} (hc : emptyB r = false) : betweenR (IntKind.i64.wrap (r.x - lim4 n)) (IntKind.i64.wrap (r.y - lim4 n)) (IntKind.i64.wrap (IntKind.i64.wrap (r.x + r.w) + lim4 n)) (IntKind.i64.wrap (IntKind.i64.wrap (r.y + r.h) + lim4 n)) = growR r n := by
  have := empty_spec.1 hc; have := lim4_bd n
  simp (disch := omega) only [w64]; simp [growR, hc]
theorem fin_rgr {r : Rc} {n : Int} (hc : emptyB r = false) : worldR (IntKind.i64.wrap (spanS r 0 - lim3 n)) (IntKind.i64.wrap (spanE r 0 + lim3 n)) (IntKind.i64.wrap (spanS r 1 - lim3 n)) (IntKind.i64.wrap (spanE r 1 + lim3 n)) = growR r n := by
  have h1 := empty_spec.1 hc
  obtain ⟨e1, e2, e3, e4⟩ := sp_ne hc
  have b1 := lim3_bd n
  rw [e1, e2, e3, e4]; simp (disch := omega) only [w64]
  have hl := lim34 n
  have hl' : -lim3 n = -lim4 n ∨ (3145728 ≤ -lim3 n ∧ 3145728 ≤ -lim4 n) ∨ (-lim3 n ≤ -3145728 ∧ -lim4 n ≤ -3145728) := by omega
  obtain ⟨u1, u2⟩ := ax_in (x := r.x) (w := r.w) (l := -lim3 n) (l' := -lim4 n) (by omega) (by omega) (by omega) hl' (lim3 n) (lim4 n) hl (.inr rfl) (.inr rfl) (by omega)
  obtain ⟨v1, v2⟩ := ax_in (x := r.y) (w := r.h) (l := -lim3 n) (l' := -lim4 n) (by omega) (by omega) (by omega) hl' (lim3 n) (lim4 n) hl (.inr rfl) (.inr rfl) (by omega)
  simp only [← Int.sub_eq_add_neg] at u1 u2 v1 v2
  simp only [growR, hc, Bool.false_eq_true, if_false, worldR, ofR, betweenR]
  split
  · rename_i hh; rw [if_pos (hh.imp u1.1 v1.1)]
  · rename_i hh
    have n1 := u2 fun h => hh (.inl h)
    have n2 := v2 fun h => hh (.inr h)
    rw [if_neg (fun h => hh (h.imp u1.2 v1.2))]; apply Rc.ext'; simp only; exact ⟨n1.1, n2.1, n1.2, n2.2⟩
section
variable {α : Type} [DecidableEq α] {a b : List α}
theorem sm1 (h : ¬ (a.length : Int) = (b.length : Int)) : false = sameL a b := by
  symm; simp only [sameL, decide_eq_false_iff_not]; intro e; exact h (by rw [e])
theorem sm2 {k : Nat} (z : α) (h : a.getD k z ≠ b.getD k z) : false = sameL a b := by
  symm; simp only [sameL, decide_eq_false_iff_not]; intro e; exact h (by rw [e])
theorem sm5 {k : Nat} (z : α) (hl : (a.length : Int) = (b.length : Int)) (hI : k ≤ a.length ∧ ∀ (j : Nat), j < k → a.getD j z = b.getD j z) (hc : (a.length : Int) ≤ (k : Int)) : true = sameL a b := by
  symm; simp only [sameL, decide_eq_true_eq]
  refine List.ext_getElem (by omega) fun j h1 h2 => ?_
  have := hI.2 j (by omega)
  simpa [List.getD_eq_getElem?_getD, List.getElem?_eq_getElem h1, List.getElem?_eq_getElem h2] using this
theorem sm4 {k j : Nat} (z : α) (hI : ∀ (j : Nat), j < k → a.getD j z = b.getD j z) (hj : j < k + 1) (h : a.getD k z = b.getD k z) : a.getD j z = b.getD j z := by
  by_cases e : j = k
  · rw [e]; exact h
  · exact hI j (by omega)
end
theorem smR {p q : Rc} (h : (p.x == q.x && (p.y == q.y && (p.w == q.w && p.h == q.h))) = false) : p ≠ q := by rintro rfl; simp at h
theorem Pt.ext' {r r' : Pt} (h : r.x = r'.x ∧ r.y = r'.y) : r = r' := by cases r; cases r'; simpa using h

theorem pl_len (l : List Rc) (k : Nat) : (pl l k).length ≤ k := by
  unfold pl; exact Nat.le_trans (List.length_filter_le _ _) (by simp; omega)
theorem w4 {k : Nat} (h : (k : Int) < 1000000) : IntKind.i64.wrap ((k : Int) + 1) = ((k + 1 : Nat) : Int) := by rw [w64 (by omega) (by omega)]; omega
section
variable {a b : Rc} {L : List Rc} {k : Nat}
def partsO (a m : Rc) : List Rc := [ofR a.x (a.x + a.w - 1) a.y (m.y - 1), ofR a.x (m.x - 1) m.y (m.y + m.h - 1), ofR (m.x + m.w) (a.x + a.w - 1) m.y (m.y + m.h - 1), ofR a.x (a.x + a.w - 1) (m.y + m.h) (a.y + a.h - 1)]
end
def NX (r : Rc) : Nat := (tileI (r.x + r.w - 1) - tileI r.x + 1).toNat
def NY (r : Rc) : Nat := (tileI (r.y + r.h - 1) - tileI r.y + 1).toNat
theorem rowL_len (y x : Int) (n : Nat) : (rowL y x n).length = n := by simp [rowL]
theorem rowL_succ (y x : Int) (n : Nat) : rowL y x (n + 1) = rowL y x n ++ [⟨x + n, y⟩] := by simp [rowL, List.range_succ]
theorem gridL_len (x y : Int) (n : Nat) : ∀ m, (gridL x y n m).length = n * m
  | 0 => rfl
  | m + 1 => by simp [gridL, gridL_len x y n m, rowL_len, Nat.mul_succ]
theorem tile_bd {x : Int} (h1 : -1048576 ≤ x) (h2 : x ≤ 1048576) : -65536 ≤ tileI x ∧ tileI x ≤ 65536 := by unfold tileI; omega
theorem tile_mono {x y : Int} (h : x ≤ y) : tileI x ≤ tileI y := by unfold tileI; omega
structure TB (r : Rc) : Prop where
  x0 : -65536 ≤ tileI r.x
  x1 : tileI (r.x + r.w - 1) ≤ 65536
  y0 : -65536 ≤ tileI r.y
  y1 : tileI (r.y + r.h - 1) ≤ 65536
  xx : tileI r.x ≤ tileI (r.x + r.w - 1)
  yy : tileI r.y ≤ tileI (r.y + r.h - 1)
theorem TB.of {r : Rc} (h : emptyB r = false) : TB r := by
  have := empty_spec.1 h
  exact ⟨(tile_bd (by omega) (by omega)).1, (tile_bd (by omega) (by omega)).2, (tile_bd (by omega) (by omega)).1, (tile_bd (by omega) (by omega)).2, tile_mono (by omega), tile_mono (by omega)⟩
theorem tw {x y : Int} (h1 : -65536 ≤ x) (h2 : x ≤ y) (h3 : y ≤ 65536) : IntKind.i64.wrap (IntKind.i64.wrap (y - x) + 1) = y - x + 1 := by
  rw [w64 (n := y - x) (by omega) (by omega), w64 (by omega) (by omega)]
theorem tw2 {r : Rc} (t : TB r) : IntKind.i64.wrap ((tileI (r.x + r.w - 1) - tileI r.x + 1) * (tileI (r.y + r.h - 1) - tileI r.y + 1)) = (tileI (r.x + r.w - 1) - tileI r.x + 1) * (tileI (r.y + r.h - 1) - tileI r.y + 1) := by
  have hx := t.xx; have hy := t.yy; have := t.x0; have := t.x1; have := t.y0; have := t.y1
  have h1 : 0 ≤ (tileI (r.x + r.w - 1) - tileI r.x + 1) * (tileI (r.y + r.h - 1) - tileI r.y + 1) := Int.mul_nonneg (by omega) (by omega)
  have h2 : (tileI (r.x + r.w - 1) - tileI r.x + 1) * (tileI (r.y + r.h - 1) - tileI r.y + 1) ≤ 131073 * (tileI (r.y + r.h - 1) - tileI r.y + 1) := Int.mul_le_mul_of_nonneg_right (by omega) (by omega)
  exact w64 (by omega) (by omega)
theorem nm_le {r : Rc} (t : TB r) (h : (tileI (r.x + r.w - 1) - tileI r.x + 1) * (tileI (r.y + r.h - 1) - tileI r.y + 1) ≤ 4096) : NX r * NY r ≤ 4096 := by
  have hx : (NX r : Int) = tileI (r.x + r.w - 1) - tileI r.x + 1 := by unfold NX; have := t.xx; omega
  have hy : (NY r : Int) = tileI (r.y + r.h - 1) - tileI r.y + 1 := by unfold NY; have := t.yy; omega
  rw [← hx, ← hy] at h
  have h' : ((NX r * NY r : Nat) : Int) ≤ 4096 := by rw [Int.natCast_mul]; exact h
  omega
def gr (r : Rc) (j : Nat) : List Pt := gridL (tileI r.x) (tileI r.y) (NX r) j
def gri (r : Rc) (j i : Nat) : List Pt := gr r j ++ rowL (tileI r.y + j) (tileI r.x) i
section
variable {r : Rc} {i j : Nat}
theorem tl1 (h : emptyB r = true) : (tilesL r).map ptC = [] := by unfold tilesL; rw [if_pos h]; rfl
theorem tl2 (h : emptyB r = false) (hc : 4096 < (tileI (r.x + r.w - 1) - tileI r.x + 1) * (tileI (r.y + r.h - 1) - tileI r.y + 1)) : (tilesL r).map ptC = [] := by
  unfold tilesL; rw [if_neg (by simp [h]), if_pos hc]; rfl
theorem tl3 (t : TB r) (h : emptyB r = false) (hm : (tileI (r.x + r.w - 1) - tileI r.x + 1) * (tileI (r.y + r.h - 1) - tileI r.y + 1) ≤ 4096) (hI : j ≤ NY r) (hc : tileI (r.y + r.h - 1) < tileI r.y + (j : Int)) : (gr r j).map ptC = (tilesL r).map ptC := by
  have hj : j = NY r := by have := t.yy; unfold NY at hI ⊢; omega
  unfold tilesL; rw [if_neg (by simp [h]), if_neg (by omega), hj]; rfl
theorem tj {X : Int} (h1 : -65536 ≤ X) (h2 : X + (i : Int) ≤ 65536) : IntKind.i64.wrap (X + (i : Int) + 1) = X + ((i + 1 : Nat) : Int) := by rw [w64 (by omega) (by omega)]; omega
theorem tk1 : (gr r j).map ptC = (gri r j 0).map ptC := by simp [gri, rowL]
theorem tk2 : (gr r j).length = (gri r j 0).length := by simp [gri, rowL]
theorem tk3 : (gri r j i).map ptC ++ [[.i (tileI r.x + (i : Int)), .i (tileI r.y + (j : Int))]] = (gri r j (i + 1)).map ptC := by simp [gri, rowL_succ, ptC]
theorem tk4 : (gri r j i).length + 1 = (gri r j (i + 1)).length := by simp [gri, rowL_succ]; omega
theorem tk5 (t : TB r) (hI : i ≤ NX r) (hc : tileI (r.x + r.w - 1) < tileI r.x + (i : Int)) : gri r j i = gr r (j + 1) := by
  have hj : i = NX r := by have := t.xx; unfold NX at hI ⊢; omega
  rw [gri, gr, gr, gridL, hj]
theorem tk6 (t : TB r) (hI : i ≤ NX r) (hc : tileI (r.x + r.w - 1) < tileI r.x + (i : Int)) : (gri r j i).map ptC = (gr r (j + 1)).map ptC := by rw [tk5 t hI hc]
theorem tk7 (t : TB r) (hI : i ≤ NX r) (hc : tileI (r.x + r.w - 1) < tileI r.x + (i : Int)) : (gri r j i).length = (gr r (j + 1)).length := by rw [tk5 t hI hc]
theorem tlx (t : TB r) (h : tileI r.x + (i : Int) ≤ tileI (r.x + r.w - 1)) : i < NX r := by unfold NX; omega
theorem tly (t : TB r) (h : tileI r.y + (j : Int) ≤ tileI (r.y + r.h - 1)) : j < NY r := by unfold NY; omega
theorem gri_bd (hn : NX r * NY r ≤ 4096) (hj : j < NY r) (hi : i < NX r) : (gri r j i).length < 4096 := by
  have h1 : NX r * (j + 1) ≤ NX r * NY r := Nat.mul_le_mul_left _ hj
  simp only [gri, gr, List.length_append, gridL_len, rowL_len]
  rw [Nat.mul_add] at h1; omega
theorem gri_b2 (hn : NX r * NY r ≤ 4096) (hj : j < NY r) (hi : i < NX r) : ((gri r j i).length + 1) * 16 ≤ 140737488355328 := by have := gri_bd hn hj hi; omega
theorem gri_b3 (hn : NX r * NY r ≤ 4096) (hj : j < NY r) (hi : i < NX r) : (gri r j i).length + 1 ≤ maxLen := by have := gri_bd hn hj hi; unfold maxLen; omega
end

end Go.Rect

