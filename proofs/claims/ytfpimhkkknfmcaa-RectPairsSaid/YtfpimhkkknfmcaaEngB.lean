import Derived.Test.YtfpimhkkknfmcaaEngA
namespace Go.Eng
open Go.RowKit

/-! ### The abstract state -/
def get : List (Nat × AV) → Nat → AV
  | [], _ => .un
  | (j, a) :: l, k => bif j == k then a else get l k

abbrev Hp := List (Nat × Option (Bool × Ent))

def geth : Hp → Nat → Option (Bool × Ent)
  | [], _ => none
  | (j, a) :: l, k => bif j == k then a else geth l k

structure St where
  e : List (Nat × AV)
  h : Hp

structure Ctx where
  P : Program
  w0 : World
  X : Nat → Prop
  n : Nat

def Ctx.own (C : Ctx) (b : Nat) : Prop := C.w0.heap.size ≤ b ∨ C.X b

def EntOk (own ok : Nat → Prop) (ι : Nat → Option (Nat × Nat)) (w : World) (nm : Nat) : Ent → Prop
  | .box T c => ∃ b cap cur, ι nm = some (b, cap) ∧ own b ∧ w.heap[b]? = some (.cells cur T (0, 0)) ∧ RepAs ok ι w true c cur.toList
  | .arr T n l => (ι nm = none ∧ l = []) ∨ ∃ b cap cur, ι nm = some (b, cap) ∧ own b ∧ w.heap[b]? = some (.cells cur T (0, 0)) ∧
      cur.size = cap * n ∧ l.length ≤ cap ∧ cap ≤ maxLen ∧ RepDss ok w n l (cur.toList.take (l.length * n))

/-- A block that nobody writes any more. -/
def okOf (h : Hp) (ι : Nat → Option (Nat × Nat)) (w : World) (b : Nat) : Prop :=
  b < w.heap.size ∧ ∀ nm x c, geth h nm = some (true, x) → ι nm ≠ some (b, c)

structure SimI (C : Ctx) (σ : St) (ι : Nat → Option (Nat × Nat)) (a : Act) (w : World) : Prop where
  env : ∀ s, RepA (okOf σ.h ι w) ι w (get σ.e s) (a.tmps.getD s undef)
  ent : ∀ nm x, geth σ.h nm = some (true, x) → EntOk C.own (okOf σ.h ι w) ι w nm x
  inj : ∀ nm nm' x x' b c c', geth σ.h nm = some (true, x) → geth σ.h nm' = some (true, x') → nm ≠ nm' → ι nm = some (b, c) → ι nm' ≠ some (b, c')
  os : w.os = C.w0.os
  tape : w.tape = C.w0.tape
  output : w.output = C.w0.output
  size : C.w0.heap.size ≤ w.heap.size
  old : ∀ k, k < C.w0.heap.size → ¬ C.X k → w.heap[k]? = C.w0.heap[k]?
  def0 : a.defers = []
  tms : a.tmps.size = C.n

def Sim (C : Ctx) (σ : St) (a : Act) (w : World) : Prop := ∃ ι, SimI C σ ι a w

/-! ### The program's tables -/
section
variable (P : Program)
def szOf (T : Nat) : Nat := ((P.info? T).map (·.size)).getD 0
def byOf (T : Nat) : Nat := ((P.info? T).map (·.bytes)).getD 0
def isAg (T : Nat) : Bool := match P.underlying T with
  | some (.struct _) | some (.array ..) => true
  | _ => false
def elOf (T : Nat) : Option Nat := match P.underlying T with
  | some (.slice e) => some e
  | _ => none
/-- the length, the element's type -/
def arOf (T : Nat) : Option (Nat × Nat) := match P.underlying T with
  | some (.array n e) => some (n, e)
  | _ => none
def fldOf (T f : Nat) : Option (Nat × Nat) := match P.underlying T with
  | some (.struct fs) => (fs[f]?).map fun x => (x.offset, x.type)
  | _ => none
def ikOf (T : Nat) : Option IntKind := match P.underlying T with
  | some (.int k) => some k
  | _ => none

def dOf : Value → D
  | .int .i64 n => .i n
  | .bool c => .b c
  | u => .v u
def zC (T : Nat) : Option (List D) := ((P.info? T).bind (·.zero)).bind fun z => bif z.cells.toList.all Value.oneCell' then some (z.cells.toList.map dOf) else none
end

theorem RepD_dOf (ok : Nat → Prop) (w : World) (u : Value) : RepD ok w (dOf u) u := by
  unfold dOf
  split <;> simp [RepD]

/-! ### Lists of values -/
section
variable {ok : Nat → Prop} {ι : Nat → Option (Nat × Nat)} {w : World}

theorem RepDs_length : ∀ {l : List D} {vs : List Value}, RepDs ok w l vs → vs.length = l.length
  | [], vs, h => by simp only [RepDs] at h; simp [h]
  | d :: l, vs, h => by
    simp only [RepDs] at h
    obtain ⟨v, vs', rfl, _, _, h⟩ := h
    simp [RepDs_length h]

theorem RepAs_length {one : Bool} : ∀ {l : List AV} {vs : List Value}, RepAs ok ι w one l vs → vs.length = l.length
  | [], vs, h => by simp only [RepAs] at h; simp [h]
  | d :: l, vs, h => by
    simp only [RepAs] at h
    obtain ⟨v, vs', rfl, _, _, h⟩ := h
    simp [RepAs_length h]

theorem RepDs_one : ∀ {l : List D} {vs : List Value}, RepDs ok w l vs → ∀ u ∈ vs, u.oneCell' = true
  | [], vs, h => by simp only [RepDs] at h; simp [h]
  | d :: l, vs, h => by
    simp only [RepDs] at h
    obtain ⟨v, vs', rfl, _, h1, h⟩ := h
    intro u hu
    simp only [List.mem_cons] at hu
    rcases hu with rfl | hu
    · exact h1
    · exact RepDs_one h u hu

theorem RepAs_one : ∀ {l : List AV} {vs : List Value}, RepAs ok ι w true l vs → ∀ u ∈ vs, u.oneCell' = true
  | [], vs, h => by simp only [RepAs] at h; simp [h]
  | d :: l, vs, h => by
    simp only [RepAs] at h
    obtain ⟨v, vs', rfl, _, h1, h⟩ := h
    intro u hu
    simp only [List.mem_cons] at hu
    rcases hu with rfl | hu
    · simpa using h1
    · exact RepAs_one h u hu

theorem RepAs_dat : ∀ {l : List D} {vs : List Value}, RepAs ok ι w true (l.map AV.dat) vs ↔ RepDs ok w l vs
  | [], vs => by simp [RepAs, RepDs]
  | d :: l, vs => by simp [RepAs, RepDs, RepA, RepAs_dat (l := l)]

theorem RepAs_append {one : Bool} : ∀ {l l' : List AV} {vs vs' : List Value}, RepAs ok ι w one l vs → RepAs ok ι w one l' vs' → RepAs ok ι w one (l ++ l') (vs ++ vs')
  | [], l', vs, vs', h, h' => by simp only [RepAs] at h; subst h; simpa using h'
  | d :: l, l', vs, vs', h, h' => by
    simp only [RepAs] at h
    obtain ⟨v, vs'', rfl, h0, h1, h⟩ := h
    simp only [List.cons_append, RepAs]
    exact ⟨v, _, rfl, h0, h1, RepAs_append h h'⟩

theorem RepDs_append : ∀ {l l' : List D} {vs vs' : List Value}, RepDs ok w l vs → RepDs ok w l' vs' → RepDs ok w (l ++ l') (vs ++ vs')
  | [], l', vs, vs', h, h' => by simp only [RepDs] at h; subst h; simpa using h'
  | d :: l, l', vs, vs', h, h' => by
    simp only [RepDs] at h
    obtain ⟨v, vs'', rfl, h0, h1, h⟩ := h
    simp only [List.cons_append, RepDs]
    exact ⟨v, _, rfl, h0, h1, RepDs_append h h'⟩

theorem RepAs_drop {one : Bool} : ∀ (k : Nat) {l : List AV} {vs : List Value}, RepAs ok ι w one l vs → RepAs ok ι w one (l.drop k) (vs.drop k)
  | 0, l, vs, h => by simpa using h
  | k + 1, [], vs, h => by simp only [RepAs] at h; subst h; simp [RepAs]
  | k + 1, d :: l, vs, h => by
    simp only [RepAs] at h
    obtain ⟨v, vs'', rfl, h0, h1, h⟩ := h
    simpa using RepAs_drop k h

theorem RepAs_take {one : Bool} : ∀ (k : Nat) {l : List AV} {vs : List Value}, RepAs ok ι w one l vs → RepAs ok ι w one (l.take k) (vs.take k)
  | 0, l, vs, h => by simp [RepAs]
  | k + 1, [], vs, h => by simp only [RepAs] at h; subst h; simp [RepAs]
  | k + 1, d :: l, vs, h => by
    simp only [RepAs] at h
    obtain ⟨v, vs'', rfl, h0, h1, h⟩ := h
    simp only [List.take_succ_cons, RepAs]
    exact ⟨v, _, rfl, h0, h1, RepAs_take k h⟩

theorem RepDs_drop : ∀ (k : Nat) {l : List D} {vs : List Value}, RepDs ok w l vs → RepDs ok w (l.drop k) (vs.drop k)
  | 0, l, vs, h => by simpa using h
  | k + 1, [], vs, h => by simp only [RepDs] at h; subst h; simp [RepDs]
  | k + 1, d :: l, vs, h => by
    simp only [RepDs] at h
    obtain ⟨v, vs'', rfl, h0, h1, h⟩ := h
    simpa using RepDs_drop k h

theorem RepDs_take : ∀ (k : Nat) {l : List D} {vs : List Value}, RepDs ok w l vs → RepDs ok w (l.take k) (vs.take k)
  | 0, l, vs, h => by simp [RepDs]
  | k + 1, [], vs, h => by simp only [RepDs] at h; subst h; simp [RepDs]
  | k + 1, d :: l, vs, h => by
    simp only [RepDs] at h
    obtain ⟨v, vs'', rfl, h0, h1, h⟩ := h
    simp only [List.take_succ_cons, RepDs]
    exact ⟨v, _, rfl, h0, h1, RepDs_take k h⟩

theorem RepAs_get {one : Bool} : ∀ (k : Nat) {l : List AV} {vs : List Value} {a : AV}, RepAs ok ι w one l vs → l[k]? = some a → ∃ v, vs[k]? = some v ∧ RepA ok ι w a v ∧ (one = true → v.oneCell' = true)
  | 0, [], vs, a, h, e => by simp at e
  | 0, d :: l, vs, a, h, e => by
    simp only [RepAs] at h
    obtain ⟨v, vs'', rfl, h0, h1, h⟩ := h
    simp at e; subst e
    exact ⟨v, by simp, h0, h1⟩
  | k + 1, [], vs, a, h, e => by simp at e
  | k + 1, d :: l, vs, a, h, e => by
    simp only [RepAs] at h
    obtain ⟨v, vs'', rfl, h0, h1, h⟩ := h
    simpa using RepAs_get k h (by simpa using e)

theorem RepDs_get : ∀ (k : Nat) {l : List D} {vs : List Value} {a : D}, RepDs ok w l vs → l[k]? = some a → ∃ v, vs[k]? = some v ∧ RepD ok w a v ∧ v.oneCell' = true
  | 0, [], vs, a, h, e => by simp at e
  | 0, d :: l, vs, a, h, e => by
    simp only [RepDs] at h
    obtain ⟨v, vs'', rfl, h0, h1, h⟩ := h
    simp at e; subst e
    exact ⟨v, by simp, h0, h1⟩
  | k + 1, [], vs, a, h, e => by simp at e
  | k + 1, d :: l, vs, a, h, e => by
    simp only [RepDs] at h
    obtain ⟨v, vs'', rfl, h0, h1, h⟩ := h
    simpa using RepDs_get k h (by simpa using e)

theorem RepDss_length {n : Nat} : ∀ {l : List (List D)} {vs : List Value}, RepDss ok w n l vs → vs.length = l.length * n
  | [], vs, h => by simp only [RepDss] at h; simp [h]
  | x :: l, vs, h => by
    simp only [RepDss] at h
    obtain ⟨v1, v2, rfl, h0, _, h⟩ := h
    simp [RepDss_length h, h0, Nat.add_mul, Nat.add_comm]

theorem RepDss_one {n : Nat} : ∀ {l : List (List D)} {vs : List Value}, RepDss ok w n l vs → ∀ u ∈ vs, u.oneCell' = true
  | [], vs, h => by simp only [RepDss] at h; simp [h]
  | x :: l, vs, h => by
    simp only [RepDss] at h
    obtain ⟨v1, v2, rfl, h0, h1, h⟩ := h
    intro u hu
    simp only [List.mem_append] at hu
    rcases hu with hu | hu
    · exact RepDs_one h1 u hu
    · exact RepDss_one h u hu

theorem RepDss_append {n : Nat} : ∀ {l l' : List (List D)} {vs vs' : List Value}, RepDss ok w n l vs → RepDss ok w n l' vs' → RepDss ok w n (l ++ l') (vs ++ vs')
  | [], l', vs, vs', h, h' => by simp only [RepDss] at h; subst h; simpa using h'
  | d :: l, l', vs, vs', h, h' => by
    simp only [RepDss] at h
    obtain ⟨v1, v2, rfl, h0, h1, h⟩ := h
    simp only [List.cons_append, RepDss, List.append_assoc]
    exact ⟨v1, _, rfl, h0, h1, RepDss_append h h'⟩

theorem RepDss_drop {n : Nat} : ∀ (k : Nat) {l : List (List D)} {vs : List Value}, RepDss ok w n l vs → RepDss ok w n (l.drop k) (vs.drop (k * n))
  | 0, l, vs, h => by simpa using h
  | k + 1, [], vs, h => by simp only [RepDss] at h; subst h; simp [RepDss]
  | k + 1, d :: l, vs, h => by
    simp only [RepDss] at h
    obtain ⟨v1, v2, rfl, h0, h1, h⟩ := h
    have e : (k + 1) * n = v1.length + k * n := by rw [Nat.add_mul]; omega
    have e2 : (v1 ++ v2).drop ((k + 1) * n) = v2.drop (k * n) := by
      rw [e, List.drop_append]; simp [List.drop_of_length_le]
    rw [e2]
    simpa using RepDss_drop k h

theorem RepDss_take {n : Nat} : ∀ (k : Nat) {l : List (List D)} {vs : List Value}, RepDss ok w n l vs → RepDss ok w n (l.take k) (vs.take (k * n))
  | 0, l, vs, h => by simp [RepDss]
  | k + 1, [], vs, h => by simp only [RepDss] at h; subst h; simp [RepDss]
  | k + 1, d :: l, vs, h => by
    simp only [RepDss] at h
    obtain ⟨v1, v2, rfl, h0, h1, h⟩ := h
    have e : (k + 1) * n = v1.length + k * n := by rw [Nat.add_mul]; omega
    rw [e, List.take_length_add_append]
    simp only [List.take_succ_cons, RepDss]
    exact ⟨v1, _, rfl, h0, h1, RepDss_take k h⟩

/-- One element of a row. -/
theorem RepDss_at {n : Nat} {l : List (List D)} {vs : List Value} (k : Nat) {x : List D} (h : RepDss ok w n l vs) (hx : l[k]? = some x) :
    RepDs ok w x ((vs.drop (k * n)).take n) ∧ ((vs.drop (k * n)).take n).length = n := by
  have h1 := RepDss_drop k h
  have hk : k < l.length := (List.getElem?_eq_some_iff.1 hx).1
  have e : l.drop k = x :: l.drop (k + 1) := by
    rw [List.drop_eq_getElem_cons hk]; congr 1; exact (List.getElem?_eq_some_iff.1 hx).2
  rw [e] at h1
  simp only [RepDss] at h1
  obtain ⟨v1, v2, e1, h0, h2, h3⟩ := h1
  rw [e1, List.take_append_of_le_length (by omega), List.take_of_length_le (by omega)]
  exact ⟨h2, h0⟩

theorem RepDss_set {n : Nat} : ∀ {l : List (List D)} {vs : List Value} (k : Nat) {x : List D} {xs : List Value}, RepDss ok w n l vs → k < l.length → RepDs ok w x xs → xs.length = n →
    RepDss ok w n (l.set k x) (vs.take (k * n) ++ xs ++ vs.drop (k * n + n))
  | [], vs, k, x, xs, h, hk, hx, hn => by simp at hk
  | d :: l, vs, 0, x, xs, h, hk, hx, hn => by
    simp only [RepDss] at h
    obtain ⟨v1, v2, rfl, h0, h1, h⟩ := h
    simp only [List.set_cons_zero, RepDss]
    refine ⟨xs, v2, ?_, hn, hx, h⟩
    simp [List.drop_append_of_le_length (Nat.le_of_eq h0.symm), List.drop_of_length_le (Nat.le_of_eq h0)]
  | d :: l, vs, k + 1, x, xs, h, hk, hx, hn => by
    simp only [RepDss] at h
    obtain ⟨v1, v2, rfl, h0, h1, h⟩ := h
    simp only [List.set_cons_succ, RepDss]
    have ih := RepDss_set k h (by simpa using hk) hx hn
    refine ⟨v1, _, ?_, h0, h1, ih⟩
    have e : (k + 1) * n = v1.length + k * n := by rw [Nat.add_mul]; omega
    rw [e, List.take_length_add_append, show v1.length + k * n + n = v1.length + (k * n + n) by omega, List.drop_append]
    simp [List.drop_of_length_le]

end
end Go.Eng
