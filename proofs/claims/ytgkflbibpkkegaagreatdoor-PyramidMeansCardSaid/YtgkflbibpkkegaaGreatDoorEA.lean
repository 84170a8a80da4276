import Derived.WalkKit
import Derived.WalkSpells
import Derived.Laws.StructEq
import Derived.Laws.Tables
import Derived.Laws.MakeOwn
set_option linter.unusedSimpArgs false
set_option linter.unusedVariables false
namespace Go.Eng
open Go.RowKit

inductive D where
  | i (n : Int)
  | b (c : Bool)
  | v (u : Value)
  | agg (l : List D)
  | sl (n : Nat) (l : List (List D))
  | bx (l : List D)
  | any

inductive AV where
  | un
  | dat (d : D)
  | agg (l : List AV)
  | tup (l : List AV)
  | rp (l : List D)
  | pt (nm o : Nat)
  | ep (nm k f n : Nat)
  | vw (nm o m n : Nat)
  | gd (g : Bool) (x : AV)
  | pin (u : Value) (x : AV)
  | cl (f : Nat) (l : List AV)
  | mp (nm : Nat)

inductive Ent where
  | box (T : Nat) (c : List AV)
  | arr (T n : Nat) (l : List (List D))
  | mp (n : Nat) (l : List (List Int × D))
  | it (n : Nat) (l : List (List Int × D)) (cur : Option (List Int × D))

def cellsAt (w : World) (b o : Nat) (vs : List Value) : Prop := ∀ j u, vs[j]? = some u → w.cell? ⟨b, o + j, none⟩ = some u

section
variable (ok : Nat → Prop) (w : World)
mutual
def RepD : D → Value → Prop
  | .i n, v => v = .int .i64 n
  | .b c, v => v = .bool c
  | .v u, v => v = u
  | .agg l, v => ∃ vs : List Value, v = .agg vs.toArray ∧ RepDs l vs
  | .sl n l, v => l.length ≤ 281474976710656 ∧ ((l = [] ∧ ∃ a cap, v = .slice a 0 cap) ∨
      ∃ b o cap vs, v = .slice (some ⟨b, o, none⟩) l.length cap ∧ l.length ≤ cap ∧ ok b ∧ RepDss n l vs ∧ cellsAt w b o vs)
  | .bx l, v => ∃ b o vs, v = .pointer (some ⟨b, o, none⟩) ∧ ok b ∧ RepDs l vs ∧ cellsAt w b o vs
  | .any, _ => True
def RepDs : List D → List Value → Prop
  | [], vs => vs = []
  | d :: l, vs => ∃ v vs', vs = v :: vs' ∧ RepD d v ∧ v.oneCell' = true ∧ RepDs l vs'
def RepDss (n : Nat) : List (List D) → List Value → Prop
  | [], vs => vs = []
  | x :: l, vs => ∃ v1 v2, vs = v1 ++ v2 ∧ v1.length = n ∧ RepDs x v1 ∧ RepDss n l v2
end
end

section
variable (ok : Nat → Prop) (ι : Nat → Option (Nat × Nat)) (w : World)
mutual
def RepA : AV → Value → Prop
  | .un, _ => True
  | .dat d, v => RepD ok w d v
  | .agg l, v => ∃ vs : List Value, v = .agg vs.toArray ∧ RepAs true l vs
  | .tup l, v => ∃ vs : List Value, v = .tuple vs.toArray ∧ RepAs false l vs
  | .rp l, v => ∃ b o vs, v = .pointer (some ⟨b, o, none⟩) ∧ ok b ∧ RepDs ok w l vs ∧ cellsAt w b o vs
  | .pt nm o, v => ∃ b c, ι nm = some (b, c) ∧ v = .pointer (some ⟨b, o, none⟩)
  | .ep nm k f n, v => ∃ b c, ι nm = some (b, c) ∧ v = .pointer (some ⟨b, k * n + f, none⟩)
  | .vw nm o m n, v => (ι nm = none ∧ v = .slice none 0 0 ∧ o = 0 ∧ m = 0) ∨
      ∃ b c, ι nm = some (b, c) ∧ v = .slice (some ⟨b, o * n, none⟩) m (c - o) ∧ o + m ≤ c
  | .gd g x, v => (g = true → RepA x v) ∧ (g = false → v = undef)
  | .pin u x, v => v = u ∧ RepA x v
  | .cl f l, v => ∃ vs : List Value, v = .func (.func f) #[] vs.toArray ∧ RepAs false l vs
  | .mp nm, v => ∃ b c, ι nm = some (b, c) ∧ v = .map (some b)
def RepAs (one : Bool) : List AV → List Value → Prop
  | [], vs => vs = []
  | a :: l, vs => ∃ v vs', vs = v :: vs' ∧ RepA a v ∧ (one = true → v.oneCell' = true) ∧ RepAs one l vs'
end
end

mutual
def AV.refs (nm : Nat) : AV → Bool
  | .pt m _ => m == nm
  | .ep m _ _ _ => m == nm
  | .vw m _ _ _ => m == nm
  | .agg l => AV.refsL nm l
  | .tup l => AV.refsL nm l
  | .gd _ x => AV.refs nm x
  | .pin _ x => AV.refs nm x
  | .cl _ l => AV.refsL nm l
  | .mp m => m == nm
  | _ => false
def AV.refsL (nm : Nat) : List AV → Bool
  | [] => false
  | a :: l => AV.refs nm a || AV.refsL nm l
end

section
variable {ok ok' : Nat → Prop} {ι ι' : Nat → Option (Nat × Nat)} {w w' : World}

theorem cellsAt_tr {b o : Nat} {vs : List Value} (h : w'.heap[b]? = w.heap[b]?) (hc : cellsAt w b o vs) : cellsAt w' b o vs :=
  fun j u hu => (World.cell?_of_block (w := w) (a := ⟨b, o + j, none⟩) h).trans (hc j u hu)

mutual
theorem RepD.tr (hok : ∀ b, ok b → ok' b) (hw : ∀ b, ok b → w'.heap[b]? = w.heap[b]?) : ∀ (d : D) (v : Value), RepD ok w d v → RepD ok' w' d v
  | .i n, v, h => by simpa only [RepD] using h
  | .b c, v, h => by simpa only [RepD] using h
  | .v u, v, h => by simpa only [RepD] using h
  | .agg l, v, h => by
    simp only [RepD] at h ⊢
    obtain ⟨vs, e, h⟩ := h
    exact ⟨vs, e, RepDs.tr hok hw l vs h⟩
  | .sl n l, v, h => by
    simp only [RepD] at h ⊢
    obtain ⟨hl, h⟩ := h
    refine ⟨hl, ?_⟩
    rcases h with h | ⟨b, o, cap, vs, e, hcap, hb, hs, hc⟩
    · exact .inl h
    · exact .inr ⟨b, o, cap, vs, e, hcap, hok b hb, RepDss.tr hok hw n l vs hs, cellsAt_tr (hw b hb) hc⟩
  | .bx l, v, h => by
    simp only [RepD] at h ⊢
    obtain ⟨b, o, vs, e, hb, hs, hc⟩ := h
    exact ⟨b, o, vs, e, hok b hb, RepDs.tr hok hw l vs hs, cellsAt_tr (hw b hb) hc⟩
  | .any, v, h => by simp only [RepD]
theorem RepDs.tr (hok : ∀ b, ok b → ok' b) (hw : ∀ b, ok b → w'.heap[b]? = w.heap[b]?) : ∀ (l : List D) (vs : List Value), RepDs ok w l vs → RepDs ok' w' l vs
  | [], vs, h => by simpa only [RepDs] using h
  | d :: l, vs, h => by
    simp only [RepDs] at h ⊢
    obtain ⟨v, vs', e, h1, h2, h3⟩ := h
    exact ⟨v, vs', e, RepD.tr hok hw d v h1, h2, RepDs.tr hok hw l vs' h3⟩
theorem RepDss.tr (hok : ∀ b, ok b → ok' b) (hw : ∀ b, ok b → w'.heap[b]? = w.heap[b]?) (n : Nat) : ∀ (l : List (List D)) (vs : List Value), RepDss ok w n l vs → RepDss ok' w' n l vs
  | [], vs, h => by simpa only [RepDss] using h
  | d :: l, vs, h => by
    simp only [RepDss] at h ⊢
    obtain ⟨v, vs', e, h0, h1, h2⟩ := h
    exact ⟨v, vs', e, h0, RepDs.tr hok hw d v h1, RepDss.tr hok hw n l vs' h2⟩
end

mutual
theorem RepA.tr (hok : ∀ b, ok b → ok' b) (hw : ∀ b, ok b → w'.heap[b]? = w.heap[b]?) : ∀ (a : AV) (v : Value), (∀ nm, a.refs nm = true → ι' nm = ι nm) → RepA ok ι w a v → RepA ok' ι' w' a v
  | .un, v, hi, h => by simp only [RepA]
  | .dat d, v, hi, h => by simp only [RepA] at h ⊢; exact RepD.tr hok hw d v h
  | .agg l, v, hi, h => by
    simp only [RepA] at h ⊢
    obtain ⟨vs, e, h⟩ := h
    exact ⟨vs, e, RepAs.tr hok hw true l vs (fun nm hn => hi nm (by simpa only [AV.refs] using hn)) h⟩
  | .tup l, v, hi, h => by
    simp only [RepA] at h ⊢
    obtain ⟨vs, e, h⟩ := h
    exact ⟨vs, e, RepAs.tr hok hw false l vs (fun nm hn => hi nm (by simpa only [AV.refs] using hn)) h⟩
  | .rp l, v, hi, h => by
    simp only [RepA] at h ⊢
    obtain ⟨b, o, vs, e, hb, hs, hc⟩ := h
    exact ⟨b, o, vs, e, hok b hb, RepDs.tr hok hw l vs hs, cellsAt_tr (hw b hb) hc⟩
  | .pt nm o, v, hi, h => by
    have := hi nm (by simp [AV.refs])
    simp only [RepA, this] at h ⊢; exact h
  | .ep nm k f n, v, hi, h => by
    have := hi nm (by simp [AV.refs])
    simp only [RepA, this] at h ⊢; exact h
  | .vw nm o m n, v, hi, h => by
    have := hi nm (by simp [AV.refs])
    simp only [RepA, this] at h ⊢; exact h
  | .gd g x, v, hi, h => by
    simp only [RepA] at h ⊢
    exact ⟨fun hg => RepA.tr hok hw x v (fun nm hn => hi nm (by simpa only [AV.refs] using hn)) (h.1 hg), h.2⟩
  | .pin u x, v, hi, h => by
    simp only [RepA] at h ⊢
    exact ⟨h.1, RepA.tr hok hw x v (fun nm hn => hi nm (by simpa only [AV.refs] using hn)) h.2⟩
  | .cl f l, v, hi, h => by
    simp only [RepA] at h ⊢
    obtain ⟨vs, e, h⟩ := h
    exact ⟨vs, e, RepAs.tr hok hw false l vs (fun nm hn => hi nm (by simpa only [AV.refs] using hn)) h⟩
  | .mp nm, v, hi, h => by
    have := hi nm (by simp [AV.refs])
    simp only [RepA, this] at h ⊢; exact h
theorem RepAs.tr (hok : ∀ b, ok b → ok' b) (hw : ∀ b, ok b → w'.heap[b]? = w.heap[b]?) (one : Bool) : ∀ (l : List AV) (vs : List Value), (∀ nm, AV.refsL nm l = true → ι' nm = ι nm) → RepAs ok ι w one l vs → RepAs ok' ι' w' one l vs
  | [], vs, hi, h => by simpa only [RepAs] using h
  | a :: l, vs, hi, h => by
    simp only [RepAs] at h ⊢
    obtain ⟨v, vs', e, h1, h2, h3⟩ := h
    exact ⟨v, vs', e, RepA.tr hok hw a v (fun nm hn => hi nm (by simp [AV.refsL, hn])) h1, h2, RepAs.tr hok hw one l vs' (fun nm hn => hi nm (by simp [AV.refsL, hn])) h3⟩
end
end
end Go.Eng

namespace Go.Eng
open Go.RowKit

def get : List (Nat × AV) → Nat → AV
  | [], _ => .un
  | (j, a) :: l, k => bif j == k then a else get l k

abbrev Hp := List (Nat × Option (Bool × Ent))

def geth : Hp → Nat → Option (Bool × Ent)
  | [], _ => none
  | (j, a) :: l, k => bif j == k then a else geth l k

structure St where
  e : List (Nat × AV)
  h : Hp

structure Ctx where
  P : Program
  w0 : World
  X : Nat → Prop
  n : Nat
  G : Nat → Prop := fun _ => False

def Ctx.F (C : Ctx) (b : Nat) : Prop := C.G b ∧ b < C.w0.heap.size ∧ ¬ C.X b
def Ctx.own (C : Ctx) (b : Nat) : Prop := C.w0.heap.size ≤ b ∨ C.X b

theorem Ctx.own_F {C : Ctx} {b : Nat} (h : C.own b) : ¬ C.F b := fun hF => h.elim (fun h => absurd h (Nat.not_le.2 hF.2.1)) hF.2.2

def keyV (n : Nat) (ks : List Int) : Value := match n with
  | 0 => .int .i64 (ks.headD 0)
  | _ => .agg (ks.map (Value.int .i64)).toArray
def keyD (n : Nat) (ks : List Int) : D := match n with
  | 0 => .i (ks.headD 0)
  | _ => .agg (ks.map D.i)
def KeyOk (n : Nat) (ks : List Int) : Prop := ks.length = (if n = 0 then 1 else n)
def RepEs (ok : Nat → Prop) (w : World) (n : Nat) : List (List Int × D) → List MapEntry → Prop
  | [], es => es = []
  | p :: l, es => ∃ e es', es = e :: es' ∧ KeyOk n p.1 ∧ e.key = keyV n p.1 ∧ RepD ok w p.2 e.val ∧ RepEs ok w n l es'
def Borns (c : Nat) (es : List MapEntry) : Prop := (∀ e ∈ es, e.born < c) ∧ es.Pairwise fun a b => a.born ≠ b.born

def CurOk (ok : Nat → Prop) (w : World) (n : Nat) (cur : Option (List Int × D)) (sn : Array Nat) (es : Array MapEntry) : Prop := match cur with
  | none => True
  | some p => ∃ s e, sn.back? = some s ∧ es.find? (fun e => e.born == s) = some e ∧ RepEs ok w n [p] [e]

def EntOk (own ok : Nat → Prop) (ι : Nat → Option (Nat × Nat)) (w : World) (nm : Nat) : Ent → Prop
  | .box T c => ∃ b cap cur, ι nm = some (b, cap) ∧ (own b ∧ cap = 0) ∧ w.heap[b]? = some (.cells cur T (0, 0)) ∧ RepAs ok ι w true c cur.toList
  | .arr T n l => (ι nm = none ∧ l = []) ∨ ∃ b cap cur, ι nm = some (b, cap) ∧ own b ∧ w.heap[b]? = some (.cells cur T (0, 0)) ∧
      cur.size = cap * n ∧ l.length ≤ cap ∧ (cap ≤ maxLen ∧ l.length ≤ 281474976710656) ∧ RepDss ok w n l (cur.toList.take (l.length * n))
  | .mp n l => ∃ b es c, ι nm = some (b, 0) ∧ own b ∧ w.heap[b]? = some (.map es c) ∧ RepEs ok w n l es.toList ∧ Borns c es.toList
  | .it n l cur => ∃ b m es c sn, ι nm = some (b, 0) ∧ own b ∧ w.heap[b]? = some (.mapIter (some m) c sn c) ∧ ok m ∧ w.heap[m]? = some (.map es c) ∧ Borns c es.toList ∧
      RepEs ok w n l (es.toList.filter fun e => !sn.contains e.born) ∧ CurOk ok w n cur sn es

def okOf (F : Nat → Prop) (h : Hp) (ι : Nat → Option (Nat × Nat)) (w : World) (b : Nat) : Prop :=
  b < w.heap.size ∧ (∀ nm x c, geth h nm = some (true, x) → ι nm ≠ some (b, c)) ∧ ¬ F b

structure SimI (C : Ctx) (σ : St) (ι : Nat → Option (Nat × Nat)) (a : Act) (w : World) : Prop where
  env : ∀ s, RepA (okOf C.F σ.h ι w) ι w (get σ.e s) (a.tmps.getD s undef)
  ent : ∀ nm x, geth σ.h nm = some (true, x) → EntOk C.own (okOf C.F σ.h ι w) ι w nm x
  inj : ∀ nm nm' x x' b c c', geth σ.h nm = some (true, x) → geth σ.h nm' = some (true, x') → nm ≠ nm' → ι nm = some (b, c) → ι nm' ≠ some (b, c')
  os : w.os = C.w0.os
  tape : w.tape = C.w0.tape
  output : w.output = C.w0.output
  size : C.w0.heap.size ≤ w.heap.size
  old : ∀ k, k < C.w0.heap.size → ¬ C.X k → w.heap[k]? = C.w0.heap[k]?
  def0 : a.defers = []
  tms : a.tmps.size = C.n

def Sim (C : Ctx) (σ : St) (a : Act) (w : World) : Prop := ∃ ι, SimI C σ ι a w

section
variable (P : Program)
def szOf (T : Nat) : Nat := ((P.info? T).map (·.size)).getD 0
def byOf (T : Nat) : Nat := ((P.info? T).map (·.bytes)).getD 0
def isAg (T : Nat) : Bool := match P.underlying T with
  | some (.struct _) | some (.array ..) => true
  | _ => false
def elOf (T : Nat) : Option Nat := match P.underlying T with
  | some (.slice e) => some e
  | _ => none
def arOf (T : Nat) : Option (Nat × Nat) := match P.underlying T with
  | some (.array n e) => some (n, e)
  | _ => none
def fldOf (T f : Nat) : Option (Nat × Nat) := match P.underlying T with
  | some (.struct fs) => (fs[f]?).map fun x => (x.offset, x.type)
  | _ => none
def ikOf (T : Nat) : Option IntKind := match P.underlying T with
  | some (.int k) => some k
  | _ => none

def dOf : Value → D
  | .int .i64 n => .i n
  | .bool c => .b c
  | u => .v u
def zC (T : Nat) : Option (List D) := ((P.info? T).bind (·.zero)).bind fun z => bif z.cells.toList.all Value.oneCell' then some (z.cells.toList.map dOf) else none
end

theorem RepD_dOf (ok : Nat → Prop) (w : World) (u : Value) : RepD ok w (dOf u) u := by
  unfold dOf
  split <;> simp [RepD]

theorem RepEs.tr {ok ok' : Nat → Prop} {w w' : World} {n : Nat} (hok : ∀ b, ok b → ok' b) (hw : ∀ b, ok b → w'.heap[b]? = w.heap[b]?) : ∀ {l : List (List Int × D)} {es : List MapEntry}, RepEs ok w n l es → RepEs ok' w' n l es
  | [], _, h => h
  | p :: l, es, h => by
    obtain ⟨e, es', h1, h2, h3, h4, h5⟩ := h
    exact ⟨e, es', h1, h2, h3, RepD.tr hok hw _ _ h4, RepEs.tr hok hw h5⟩
theorem CurOk.tr {ok ok' : Nat → Prop} {w w' : World} {n : Nat} (hok : ∀ b, ok b → ok' b) (hw : ∀ b, ok b → w'.heap[b]? = w.heap[b]?) {cur : Option (List Int × D)} {sn : Array Nat} {es : Array MapEntry} (h : CurOk ok w n cur sn es) : CurOk ok' w' n cur sn es := by
  cases cur with
  | none => trivial
  | some p =>
    obtain ⟨s, e, h1, h2, h3⟩ := h
    exact ⟨s, e, h1, h2, RepEs.tr hok hw h3⟩
section
variable {ok : Nat → Prop} {ι : Nat → Option (Nat × Nat)} {w : World}

theorem RepDs_length : ∀ {l : List D} {vs : List Value}, RepDs ok w l vs → vs.length = l.length
  | [], vs, h => by simp only [RepDs] at h; simp [h]
  | d :: l, vs, h => by
    simp only [RepDs] at h
    obtain ⟨v, vs', rfl, _, _, h⟩ := h
    simp [RepDs_length h]

theorem RepAs_length {one : Bool} : ∀ {l : List AV} {vs : List Value}, RepAs ok ι w one l vs → vs.length = l.length
  | [], vs, h => by simp only [RepAs] at h; simp [h]
  | d :: l, vs, h => by
    simp only [RepAs] at h
    obtain ⟨v, vs', rfl, _, _, h⟩ := h
    simp [RepAs_length h]

theorem RepDs_one : ∀ {l : List D} {vs : List Value}, RepDs ok w l vs → ∀ u ∈ vs, u.oneCell' = true
  | [], vs, h => by simp only [RepDs] at h; simp [h]
  | d :: l, vs, h => by
    simp only [RepDs] at h
    obtain ⟨v, vs', rfl, _, h1, h⟩ := h
    intro u hu
    simp only [List.mem_cons] at hu
    rcases hu with rfl | hu
    · exact h1
    · exact RepDs_one h u hu

theorem RepAs_one : ∀ {l : List AV} {vs : List Value}, RepAs ok ι w true l vs → ∀ u ∈ vs, u.oneCell' = true
  | [], vs, h => by simp only [RepAs] at h; simp [h]
  | d :: l, vs, h => by
    simp only [RepAs] at h
    obtain ⟨v, vs', rfl, _, h1, h⟩ := h
    intro u hu
    simp only [List.mem_cons] at hu
    rcases hu with rfl | hu
    · simpa using h1
    · exact RepAs_one h u hu

theorem RepAs_dat : ∀ {l : List D} {vs : List Value}, RepAs ok ι w true (l.map AV.dat) vs ↔ RepDs ok w l vs
  | [], vs => by simp [RepAs, RepDs]
  | d :: l, vs => by simp [RepAs, RepDs, RepA, RepAs_dat (l := l)]

theorem RepAs_append {one : Bool} : ∀ {l l' : List AV} {vs vs' : List Value}, RepAs ok ι w one l vs → RepAs ok ι w one l' vs' → RepAs ok ι w one (l ++ l') (vs ++ vs')
  | [], l', vs, vs', h, h' => by simp only [RepAs] at h; subst h; simpa using h'
  | d :: l, l', vs, vs', h, h' => by
    simp only [RepAs] at h
    obtain ⟨v, vs'', rfl, h0, h1, h⟩ := h
    simp only [List.cons_append, RepAs]
    exact ⟨v, _, rfl, h0, h1, RepAs_append h h'⟩

theorem RepDs_append : ∀ {l l' : List D} {vs vs' : List Value}, RepDs ok w l vs → RepDs ok w l' vs' → RepDs ok w (l ++ l') (vs ++ vs')
  | [], l', vs, vs', h, h' => by simp only [RepDs] at h; subst h; simpa using h'
  | d :: l, l', vs, vs', h, h' => by
    simp only [RepDs] at h
    obtain ⟨v, vs'', rfl, h0, h1, h⟩ := h
    simp only [List.cons_append, RepDs]
    exact ⟨v, _, rfl, h0, h1, RepDs_append h h'⟩

theorem RepAs_drop {one : Bool} : ∀ (k : Nat) {l : List AV} {vs : List Value}, RepAs ok ι w one l vs → RepAs ok ι w one (l.drop k) (vs.drop k)
  | 0, l, vs, h => by simpa using h
  | k + 1, [], vs, h => by simp only [RepAs] at h; subst h; simp [RepAs]
  | k + 1, d :: l, vs, h => by
    simp only [RepAs] at h
    obtain ⟨v, vs'', rfl, h0, h1, h⟩ := h
    simpa using RepAs_drop k h

theorem RepAs_take {one : Bool} : ∀ (k : Nat) {l : List AV} {vs : List Value}, RepAs ok ι w one l vs → RepAs ok ι w one (l.take k) (vs.take k)
  | 0, l, vs, h => by simp [RepAs]
  | k + 1, [], vs, h => by simp only [RepAs] at h; subst h; simp [RepAs]
  | k + 1, d :: l, vs, h => by
    simp only [RepAs] at h
    obtain ⟨v, vs'', rfl, h0, h1, h⟩ := h
    simp only [List.take_succ_cons, RepAs]
    exact ⟨v, _, rfl, h0, h1, RepAs_take k h⟩

theorem RepDs_drop : ∀ (k : Nat) {l : List D} {vs : List Value}, RepDs ok w l vs → RepDs ok w (l.drop k) (vs.drop k)
  | 0, l, vs, h => by simpa using h
  | k + 1, [], vs, h => by simp only [RepDs] at h; subst h; simp [RepDs]
  | k + 1, d :: l, vs, h => by
    simp only [RepDs] at h
    obtain ⟨v, vs'', rfl, h0, h1, h⟩ := h
    simpa using RepDs_drop k h

theorem RepDs_take : ∀ (k : Nat) {l : List D} {vs : List Value}, RepDs ok w l vs → RepDs ok w (l.take k) (vs.take k)
  | 0, l, vs, h => by simp [RepDs]
  | k + 1, [], vs, h => by simp only [RepDs] at h; subst h; simp [RepDs]
  | k + 1, d :: l, vs, h => by
    simp only [RepDs] at h
    obtain ⟨v, vs'', rfl, h0, h1, h⟩ := h
    simp only [List.take_succ_cons, RepDs]
    exact ⟨v, _, rfl, h0, h1, RepDs_take k h⟩

theorem RepAs_get {one : Bool} : ∀ (k : Nat) {l : List AV} {vs : List Value} {a : AV}, RepAs ok ι w one l vs → l[k]? = some a → ∃ v, vs[k]? = some v ∧ RepA ok ι w a v ∧ (one = true → v.oneCell' = true)
  | 0, [], vs, a, h, e => by simp at e
  | 0, d :: l, vs, a, h, e => by
    simp only [RepAs] at h
    obtain ⟨v, vs'', rfl, h0, h1, h⟩ := h
    simp at e; subst e
    exact ⟨v, by simp, h0, h1⟩
  | k + 1, [], vs, a, h, e => by simp at e
  | k + 1, d :: l, vs, a, h, e => by
    simp only [RepAs] at h
    obtain ⟨v, vs'', rfl, h0, h1, h⟩ := h
    simpa using RepAs_get k h (by simpa using e)

theorem RepDs_get : ∀ (k : Nat) {l : List D} {vs : List Value} {a : D}, RepDs ok w l vs → l[k]? = some a → ∃ v, vs[k]? = some v ∧ RepD ok w a v ∧ v.oneCell' = true
  | 0, [], vs, a, h, e => by simp at e
  | 0, d :: l, vs, a, h, e => by
    simp only [RepDs] at h
    obtain ⟨v, vs'', rfl, h0, h1, h⟩ := h
    simp at e; subst e
    exact ⟨v, by simp, h0, h1⟩
  | k + 1, [], vs, a, h, e => by simp at e
  | k + 1, d :: l, vs, a, h, e => by
    simp only [RepDs] at h
    obtain ⟨v, vs'', rfl, h0, h1, h⟩ := h
    simpa using RepDs_get k h (by simpa using e)

theorem RepDss_length {n : Nat} : ∀ {l : List (List D)} {vs : List Value}, RepDss ok w n l vs → vs.length = l.length * n
  | [], vs, h => by simp only [RepDss] at h; simp [h]
  | x :: l, vs, h => by
    simp only [RepDss] at h
    obtain ⟨v1, v2, rfl, h0, _, h⟩ := h
    simp [RepDss_length h, h0, Nat.add_mul, Nat.add_comm]

theorem RepDss_one {n : Nat} : ∀ {l : List (List D)} {vs : List Value}, RepDss ok w n l vs → ∀ u ∈ vs, u.oneCell' = true
  | [], vs, h => by simp only [RepDss] at h; simp [h]
  | x :: l, vs, h => by
    simp only [RepDss] at h
    obtain ⟨v1, v2, rfl, h0, h1, h⟩ := h
    intro u hu
    simp only [List.mem_append] at hu
    rcases hu with hu | hu
    · exact RepDs_one h1 u hu
    · exact RepDss_one h u hu

theorem RepDss_append {n : Nat} : ∀ {l l' : List (List D)} {vs vs' : List Value}, RepDss ok w n l vs → RepDss ok w n l' vs' → RepDss ok w n (l ++ l') (vs ++ vs')
  | [], l', vs, vs', h, h' => by simp only [RepDss] at h; subst h; simpa using h'
  | d :: l, l', vs, vs', h, h' => by
    simp only [RepDss] at h
    obtain ⟨v1, v2, rfl, h0, h1, h⟩ := h
    simp only [List.cons_append, RepDss, List.append_assoc]
    exact ⟨v1, _, rfl, h0, h1, RepDss_append h h'⟩

theorem RepDss_drop {n : Nat} : ∀ (k : Nat) {l : List (List D)} {vs : List Value}, RepDss ok w n l vs → RepDss ok w n (l.drop k) (vs.drop (k * n))
  | 0, l, vs, h => by simpa using h
  | k + 1, [], vs, h => by simp only [RepDss] at h; subst h; simp [RepDss]
  | k + 1, d :: l, vs, h => by
    simp only [RepDss] at h
    obtain ⟨v1, v2, rfl, h0, h1, h⟩ := h
    have e : (k + 1) * n = v1.length + k * n := by rw [Nat.add_mul]; omega
    have e2 : (v1 ++ v2).drop ((k + 1) * n) = v2.drop (k * n) := by
      rw [e, List.drop_append]; simp [List.drop_of_length_le]
    rw [e2]
    simpa using RepDss_drop k h

theorem RepDss_take {n : Nat} : ∀ (k : Nat) {l : List (List D)} {vs : List Value}, RepDss ok w n l vs → RepDss ok w n (l.take k) (vs.take (k * n))
  | 0, l, vs, h => by simp [RepDss]
  | k + 1, [], vs, h => by simp only [RepDss] at h; subst h; simp [RepDss]
  | k + 1, d :: l, vs, h => by
    simp only [RepDss] at h
    obtain ⟨v1, v2, rfl, h0, h1, h⟩ := h
    have e : (k + 1) * n = v1.length + k * n := by rw [Nat.add_mul]; omega
    rw [e, List.take_length_add_append]
    simp only [List.take_succ_cons, RepDss]
    exact ⟨v1, _, rfl, h0, h1, RepDss_take k h⟩

theorem RepDss_at {n : Nat} {l : List (List D)} {vs : List Value} (k : Nat) {x : List D} (h : RepDss ok w n l vs) (hx : l[k]? = some x) :
    RepDs ok w x ((vs.drop (k * n)).take n) ∧ ((vs.drop (k * n)).take n).length = n := by
  have h1 := RepDss_drop k h
  have hk : k < l.length := (List.getElem?_eq_some_iff.1 hx).1
  have e : l.drop k = x :: l.drop (k + 1) := by
    rw [List.drop_eq_getElem_cons hk]; congr 1; exact (List.getElem?_eq_some_iff.1 hx).2
  rw [e] at h1
  simp only [RepDss] at h1
  obtain ⟨v1, v2, e1, h0, h2, h3⟩ := h1
  rw [e1, List.take_append_of_le_length (by omega), List.take_of_length_le (by omega)]
  exact ⟨h2, h0⟩

theorem RepDss_set {n : Nat} : ∀ {l : List (List D)} {vs : List Value} (k : Nat) {x : List D} {xs : List Value}, RepDss ok w n l vs → k < l.length → RepDs ok w x xs → xs.length = n →
    RepDss ok w n (l.set k x) (vs.take (k * n) ++ xs ++ vs.drop (k * n + n))
  | [], vs, k, x, xs, h, hk, hx, hn => by simp at hk
  | d :: l, vs, 0, x, xs, h, hk, hx, hn => by
    simp only [RepDss] at h
    obtain ⟨v1, v2, rfl, h0, h1, h⟩ := h
    simp only [List.set_cons_zero, RepDss]
    refine ⟨xs, v2, ?_, hn, hx, h⟩
    simp [List.drop_append_of_le_length (Nat.le_of_eq h0.symm), List.drop_of_length_le (Nat.le_of_eq h0)]
  | d :: l, vs, k + 1, x, xs, h, hk, hx, hn => by
    simp only [RepDss] at h
    obtain ⟨v1, v2, rfl, h0, h1, h⟩ := h
    simp only [List.set_cons_succ, RepDss]
    have ih := RepDss_set k h (by simpa using hk) hx hn
    refine ⟨v1, _, ?_, h0, h1, ih⟩
    have e : (k + 1) * n = v1.length + k * n := by rw [Nat.add_mul]; omega
    rw [e, List.take_length_add_append, show v1.length + k * n + n = v1.length + (k * n + n) by omega, List.drop_append]
    simp [List.drop_of_length_le]

end
end Go.Eng

namespace Go.Eng
open Go.RowKit

def Ent.refs (nm : Nat) : Ent → Bool
  | .box _ c => AV.refsL nm c
  | .arr .. => false
  | .mp .. => false
  | .it .. => false

def fresh (d : Nat) (σ : St) : Bool :=
  σ.e.all (fun p => !p.2.refs d) && σ.h.all (fun p => match p.2 with | none => true | some x => !x.2.refs d)

theorem get_refs {e : List (Nat × AV)} {d : Nat} (h : e.all (fun p => !p.2.refs d) = true) (s : Nat) : (get e s).refs d = false := by
  induction e with
  | nil => simp [get, AV.refs]
  | cons p l ih =>
    obtain ⟨j, a⟩ := p
    simp only [List.all_cons, Bool.and_eq_true] at h
    simp only [get]
    cases j == s
    · exact ih h.2
    · simpa using h.1

theorem geth_refs {e : Hp} {d : Nat} (h : e.all (fun p => match p.2 with | none => true | some x => !x.2.refs d) = true) {nm : Nat} {x : Ent} {g : Bool} (hx : geth e nm = some (g, x)) : x.refs d = false := by
  induction e with
  | nil => simp [geth] at hx
  | cons p l ih =>
    obtain ⟨j, a⟩ := p
    simp only [List.all_cons, Bool.and_eq_true] at h
    simp only [geth] at hx
    cases hj : j == nm
    · rw [hj] at hx; exact ih h.2 hx
    · rw [hj] at hx
      simp only [cond_true] at hx
      subst hx
      simpa using h.1

section
variable {C : Ctx} {σ : St} {ι : Nat → Option (Nat × Nat)} {a : Act} {w : World}

theorem EntOk.tr {own ok ok' : Nat → Prop} {ι' : Nat → Option (Nat × Nat)} {w' : World} {nm : Nat} {x : Ent} (hok : ∀ b, ok b → ok' b) (hw : ∀ b, ok b → w'.heap[b]? = w.heap[b]?)
    (hown : ∀ b c, ι nm = some (b, c) → w'.heap[b]? = w.heap[b]?) (hn : ι' nm = ι nm) (hr : ∀ k, x.refs k = true → ι' k = ι k) (h : EntOk own ok ι w nm x) : EntOk own ok' ι' w' nm x := by
  cases x with
  | box T c =>
    obtain ⟨b, cap, cur, h1, h2, h3, h4⟩ := h
    exact ⟨b, cap, cur, by rw [hn, h1], h2, by rw [hown b cap h1, h3], RepAs.tr hok hw true c _ (fun k hk => hr k hk) h4⟩
  | arr T n l =>
    rcases h with ⟨h1, h2⟩ | ⟨b, cap, cur, h1, h2, h3, h4, h5, h6, h7⟩
    · exact .inl ⟨by rw [hn, h1], h2⟩
    · exact .inr ⟨b, cap, cur, by rw [hn, h1], h2, by rw [hown b cap h1, h3], h4, h5, h6, RepDss.tr hok hw n l _ h7⟩
  | mp n l =>
    obtain ⟨b, es, c, h1, h2, h3, h4, h5⟩ := h
    exact ⟨b, es, c, by rw [hn, h1], h2, by rw [hown b 0 h1, h3], RepEs.tr hok hw h4, h5⟩
  | it n l cur =>
    obtain ⟨b, m, es, c, sn, h1, h2, h3, h4, h5, h6, h7, h8⟩ := h
    exact ⟨b, m, es, c, sn, by rw [hn, h1], h2, by rw [hown b 0 h1, h3], hok m h4, by rw [hw m h4, h5], h6, RepEs.tr hok hw h7, CurOk.tr hok hw h8⟩

theorem SimI.live_lt (S : SimI C σ ι a w) {nm b c : Nat} {x : Ent} (hx : geth σ.h nm = some (true, x)) (hi : ι nm = some (b, c)) : b < w.heap.size := by
  have h := S.ent nm x hx
  cases x with
  | box T l =>
    obtain ⟨b', cap, cur, h1, h2, h3, h4⟩ := h
    rw [hi] at h1; simp at h1
    rw [← h1.1] at h3
    exact (Array.getElem?_eq_some_iff.1 h3).1
  | arr T n l =>
    rcases h with ⟨h1, h2⟩ | ⟨b', cap, cur, h1, h2, h3, h4, h5, h6, h7⟩
    · rw [hi] at h1; simp at h1
    · rw [hi] at h1; simp at h1
      rw [← h1.1] at h3
      exact (Array.getElem?_eq_some_iff.1 h3).1
  | mp n l =>
    obtain ⟨b', es, c', h1, h2, h3, h4⟩ := h
    rw [hi] at h1; simp at h1
    rw [← h1.1] at h3
    exact (Array.getElem?_eq_some_iff.1 h3).1
  | it n l cur =>
    obtain ⟨b', m, es, c', sn, h1, h2, h3, h4⟩ := h
    rw [hi] at h1; simp at h1
    rw [← h1.1] at h3
    exact (Array.getElem?_eq_some_iff.1 h3).1

theorem SimI.put (S : SimI C σ ι a w) {d : Nat} {av : AV} {v : Value} (hd : d < C.n) (h : RepA (okOf C.F σ.h ι w) ι w av v) :
    SimI C ⟨(d, av) :: σ.e, σ.h⟩ ι (a.put (some d) v) w := by
  refine ⟨?_, S.ent, S.inj, S.os, S.tape, S.output, S.size, S.old, S.def0, ?_⟩
  · intro s
    simp only [get, Act.put]
    by_cases hs : d = s
    · subst hs
      simp [S.tms, hd]
      exact h
    · have : (d == s) = false := by simpa using hs
      simp only [this, cond_false, Array.getD_eq_getD_getElem?, Array.getElem?_setIfInBounds_ne hs]
      have := S.env s
      simpa [Array.getD_eq_getD_getElem?] using this
  · simp [Act.put, S.tms]

theorem SimI.grow (S : SimI C σ ι a w) {w' : World} (ho : w'.os = w.os) (ht : w'.tape = w.tape) (hu : w'.output = w.output) (hz : w.heap.size ≤ w'.heap.size)
    (hb : ∀ b, b < w.heap.size → w'.heap[b]? = w.heap[b]?) : SimI C σ ι a w' := by
  have hok : ∀ b, okOf C.F σ.h ι w b → okOf C.F σ.h ι w' b := fun b h => ⟨Nat.lt_of_lt_of_le h.1 hz, h.2⟩
  have hw : ∀ b, okOf C.F σ.h ι w b → w'.heap[b]? = w.heap[b]? := fun b h => hb b h.1
  refine ⟨fun s => RepA.tr hok hw _ _ (fun _ _ => rfl) (S.env s), fun nm x hx => ?_, S.inj, ho.trans S.os, ht.trans S.tape, hu.trans S.output, Nat.le_trans S.size hz,
    fun k hk hx => (hb k (Nat.lt_of_lt_of_le hk S.size)).trans (S.old k hk hx), S.def0, S.tms⟩
  exact (S.ent nm x hx).tr hok hw (fun b c hi => hb b (S.live_lt hx hi)) rfl (fun _ _ => rfl)

theorem SimI.drop (S : SimI C σ ι a w) (nm : Nat) : SimI C ⟨σ.e, (nm, none) :: σ.h⟩ ι a w := by
  have hlive : ∀ k x, geth ((nm, none) :: σ.h) k = some (true, x) → geth σ.h k = some (true, x) := by
    intro k x h
    simp only [geth] at h
    cases hk : nm == k
    · rw [hk] at h; exact h
    · rw [hk] at h; simp at h
  have hok : ∀ b, okOf C.F σ.h ι w b → okOf C.F ((nm, none) :: σ.h) ι w b := fun b h => ⟨h.1, fun k x c hx => h.2.1 k x c (hlive k x hx), h.2.2⟩
  refine ⟨fun s => RepA.tr hok (fun _ _ => rfl) _ _ (fun _ _ => rfl) (S.env s), fun k x hx => ?_, fun k k' x x' b c c' h h' => S.inj k k' x x' b c c' (hlive _ _ h) (hlive _ _ h'), S.os, S.tape, S.output, S.size, S.old, S.def0, S.tms⟩
  exact (S.ent k x (hlive k x hx)).tr hok (fun _ _ => rfl) (fun _ _ _ => rfl) rfl (fun _ _ => rfl)

theorem SimI.name (S : SimI C σ ι a w) {d : Nat} {p : Option (Nat × Nat)} {x : Ent} (hf : fresh d σ = true)
    (hnew : ∀ b c, p = some (b, c) → ¬ okOf C.F σ.h ι w b ∧ ∀ nm y c', geth σ.h nm = some (true, y) → nm ≠ d → ι nm ≠ some (b, c'))
    (hx : EntOk C.own (okOf C.F ((d, some (true, x)) :: σ.h) (fun k => if k = d then p else ι k) w) (fun k => if k = d then p else ι k) w d x) :
    SimI C ⟨σ.e, (d, some (true, x)) :: σ.h⟩ (fun k => if k = d then p else ι k) a w := by
  simp only [fresh, Bool.and_eq_true] at hf
  have hlive : ∀ k y, geth ((d, some (true, x)) :: σ.h) k = some (true, y) → k ≠ d → geth σ.h k = some (true, y) := by
    intro k y h hk
    simp only [geth] at h
    have : (d == k) = false := by simpa using fun e => hk e.symm
    rw [this] at h; exact h
  have hok : ∀ b, okOf C.F σ.h ι w b → okOf C.F ((d, some (true, x)) :: σ.h) (fun k => if k = d then p else ι k) w b := by
    intro b h
    refine ⟨h.1, fun k y c hy => ?_, h.2.2⟩
    by_cases hk : k = d
    · subst hk
      simp only [if_true]
      intro hp
      exact (hnew b c hp).1 h
    · simp only [hk, if_false]
      exact h.2.1 k y c (hlive k y hy hk)
  have hne : ∀ (A : AV), A.refs d = false → ∀ k, A.refs k = true → (if k = d then p else ι k) = ι k := by
    intro A hA k hk
    rw [if_neg]
    rintro rfl
    rw [hA] at hk; cases hk
  refine ⟨fun s => RepA.tr hok (fun _ _ => rfl) _ _ (hne _ (get_refs hf.1 s)) (S.env s), fun k y hy => ?_, ?_, S.os, S.tape, S.output, S.size, S.old, S.def0, S.tms⟩
  · by_cases hk : k = d
    · subst hk
      have : y = x := by simp [geth] at hy; exact hy.symm
      subst this
      exact hx
    · have h1 := hlive k y hy hk
      have h2 := geth_refs hf.2 h1
      refine (S.ent k y h1).tr hok (fun _ _ => rfl) (fun _ _ _ => rfl) (by simp [hk]) (fun j hj => ?_)
      rw [if_neg]
      rintro rfl
      rw [h2] at hj; cases hj
  · intro k k' y y' b c c' h h' hkk hi
    by_cases hk : k = d
    · subst hk
      have hk' : k' ≠ k := fun e => hkk e.symm
      simp only [if_true] at hi
      simp only [hk', if_false]
      exact (hnew b c hi).2 k' y' c' (hlive _ _ h' hk') hk'
    · simp only [hk, if_false] at hi
      by_cases hk' : k' = d
      · subst hk'
        simp only [if_true]
        intro hp
        exact (hnew b c' hp).2 k y c (hlive _ _ h hk) hk hi
      · simp only [hk', if_false]
        exact S.inj k k' y y' b c c' (hlive _ _ h hk) (hlive _ _ h' hk') hkk hi

theorem SimI.write (S : SimI C σ ι a w) {nm b c : Nat} {x x' : Ent} {o : Obj} {w' : World} (hl : geth σ.h nm = some (true, x)) (hi : ι nm = some (b, c))
    (hw' : w'.heap[b]? = some o) (ho : w'.os = w.os) (ht : w'.tape = w.tape) (hu : w'.output = w.output) (hz : w.heap.size = w'.heap.size)
    (hb : ∀ k, k ≠ b → w'.heap[k]? = w.heap[k]?)
    (hx : (∀ B, okOf C.F σ.h ι w B → okOf C.F ((nm, some (true, x')) :: σ.h) ι w' B) → (∀ B, okOf C.F σ.h ι w B → w'.heap[B]? = w.heap[B]?) → EntOk C.own (okOf C.F ((nm, some (true, x')) :: σ.h) ι w') ι w' nm x') :
    SimI C ⟨σ.e, (nm, some (true, x')) :: σ.h⟩ ι a w' := by
  have hlive : ∀ k y, geth ((nm, some (true, x')) :: σ.h) k = some (true, y) → ∃ z, geth σ.h k = some (true, z) ∧ (k ≠ nm → z = y) := by
    intro k y h
    by_cases hk : k = nm
    · subst hk; exact ⟨x, hl, fun h => absurd rfl h⟩
    · simp only [geth] at h
      have : (nm == k) = false := by simpa using fun e => hk e.symm
      rw [this] at h; exact ⟨y, h, fun _ => rfl⟩
  have hok : ∀ B, okOf C.F σ.h ι w B → okOf C.F ((nm, some (true, x')) :: σ.h) ι w' B := by
    intro B h
    refine ⟨hz ▸ h.1, fun k y c' hy => ?_, h.2.2⟩
    obtain ⟨z, hz1, _⟩ := hlive k y hy
    exact h.2.1 k z c' hz1
  have hw : ∀ B, okOf C.F σ.h ι w B → w'.heap[B]? = w.heap[B]? := fun B h => hb B (fun e => h.2.1 nm x c hl (e ▸ hi))
  have hown := S.ent nm x hl
  refine ⟨fun s => RepA.tr hok hw _ _ (fun _ _ => rfl) (S.env s), fun k y hy => ?_, ?_, ho.trans S.os, ht.trans S.tape, hu.trans S.output, hz ▸ S.size, ?_, S.def0, S.tms⟩
  · by_cases hk : k = nm
    · subst hk
      have : y = x' := by simp [geth] at hy; exact hy.symm
      subst this
      exact hx hok hw
    · obtain ⟨z, hz1, hz2⟩ := hlive k y hy
      have := hz2 hk
      subst this
      refine (S.ent k z hz1).tr hok hw (fun B c' hB => hb B ?_) rfl (fun _ _ => rfl)
      rintro rfl
      exact S.inj nm k x z B c c' hl hz1 (fun e => hk e.symm) hi hB
  · intro k k' y y' B c1 c2 h h' hkk hB
    obtain ⟨z, hz1, _⟩ := hlive k y h
    obtain ⟨z', hz1', _⟩ := hlive k' y' h'
    exact S.inj k k' z z' B c1 c2 hz1 hz1' hkk hB
  · intro k hk hX
    rw [hb k, S.old k hk hX]
    rintro rfl
    have : C.own k := by
      cases x with
      | box T l => obtain ⟨b', cap, cur, h1, h2, _⟩ := hown; rw [hi] at h1; simp at h1; exact h1.1 ▸ h2.1
      | arr T n l =>
        rcases hown with ⟨h1, _⟩ | ⟨b', cap, cur, h1, h2, _⟩
        · rw [hi] at h1; cases h1
        · rw [hi] at h1; simp at h1; exact h1.1 ▸ h2
      | mp n l => obtain ⟨b', es, c', h1, h2, _⟩ := hown; rw [hi] at h1; simp at h1; exact h1.1 ▸ h2
      | it n l cur => obtain ⟨b', m, es, c', sn, h1, h2, _⟩ := hown; rw [hi] at h1; simp at h1; exact h1.1 ▸ h2
    rcases this with h | h
    · omega
    · exact hX h

theorem SimI.new (S : SimI C σ ι a w) {w' : World} (ho : w'.os = w.os) (ht : w'.tape = w.tape) (hu : w'.output = w.output) (hz : w.heap.size ≤ w'.heap.size)
    (hb : ∀ b, b < w.heap.size → w'.heap[b]? = w.heap[b]?) {d : Nat} {p : Option (Nat × Nat)} {x : Ent} (hf : fresh d σ = true)
    (hp : ∀ b c, p = some (b, c) → w.heap.size ≤ b)
    (hx : (∀ B, okOf C.F σ.h ι w B → okOf C.F ((d, some (true, x)) :: σ.h) (fun k => if k = d then p else ι k) w' B) → (∀ A : AV, A.refs d = false → ∀ k, A.refs k = true → (if k = d then p else ι k) = ι k) →
      EntOk C.own (okOf C.F ((d, some (true, x)) :: σ.h) (fun k => if k = d then p else ι k) w') (fun k => if k = d then p else ι k) w' d x) :
    SimI C ⟨σ.e, (d, some (true, x)) :: σ.h⟩ (fun k => if k = d then p else ι k) a w' := by
  simp only [fresh, Bool.and_eq_true] at hf
  have hlive : ∀ k y, geth ((d, some (true, x)) :: σ.h) k = some (true, y) → k ≠ d → geth σ.h k = some (true, y) := by
    intro k y h hk
    simp only [geth] at h
    have : (d == k) = false := by simpa using fun e => hk e.symm
    rw [this] at h; exact h
  have hok : ∀ b, okOf C.F σ.h ι w b → okOf C.F ((d, some (true, x)) :: σ.h) (fun k => if k = d then p else ι k) w' b := by
    intro b h
    refine ⟨Nat.lt_of_lt_of_le h.1 hz, fun k y c hy => ?_, h.2.2⟩
    by_cases hk : k = d
    · subst hk
      simp only [if_true]
      intro hpp
      have := hp b c hpp
      have := h.1
      omega
    · simp only [hk, if_false]
      exact h.2.1 k y c (hlive k y hy hk)
  have hw : ∀ b, okOf C.F σ.h ι w b → w'.heap[b]? = w.heap[b]? := fun b h => hb b h.1
  have hne : ∀ (A : AV), A.refs d = false → ∀ k, A.refs k = true → (if k = d then p else ι k) = ι k := by
    intro A hA k hk
    rw [if_neg]
    rintro rfl
    rw [hA] at hk; cases hk
  refine ⟨fun s => RepA.tr hok hw _ _ (hne _ (get_refs hf.1 s)) (S.env s), fun k y hy => ?_, ?_, ho.trans S.os, ht.trans S.tape, hu.trans S.output, Nat.le_trans S.size hz,
    fun k hk hx => (hb k (Nat.lt_of_lt_of_le hk S.size)).trans (S.old k hk hx), S.def0, S.tms⟩
  · by_cases hk : k = d
    · subst hk
      have : y = x := by simp [geth] at hy; exact hy.symm
      subst this
      exact hx hok hne
    · have h1 := hlive k y hy hk
      have h2 := geth_refs hf.2 h1
      refine (S.ent k y h1).tr hok hw (fun b c hi => hb b (S.live_lt h1 hi)) (by simp [hk]) (fun j hj => ?_)
      rw [if_neg]
      rintro rfl
      rw [h2] at hj; cases hj
  · intro k k' y y' b c c' h h' hkk hi
    by_cases hk : k = d
    · subst hk
      have hk' : k' ≠ k := fun e => hkk e.symm
      simp only [if_true] at hi
      simp only [hk', if_false]
      intro hi'
      have h1 := hp b c hi
      have h2 := S.live_lt (hlive _ _ h' hk') hi'
      omega
    · simp only [hk, if_false] at hi
      by_cases hk' : k' = d
      · subst hk'
        simp only [if_true]
        intro hpp
        have h1 := hp b c' hpp
        have h2 := S.live_lt (hlive _ _ h hk) hi
        omega
      · simp only [hk', if_false]
        exact S.inj k k' y y' b c c' (hlive _ _ h hk) (hlive _ _ h' hk') hkk hi

theorem SimI.rename (S : SimI C σ ι a w) {nm d : Nat} {x : Ent} (hl : geth σ.h nm = some (true, x)) (hf : fresh d σ = true) (hxr : x.refs d = false) :
    SimI C ⟨σ.e, (d, some (true, x)) :: (nm, none) :: σ.h⟩ (fun k => if k = d then ι nm else ι k) a w := by
  simp only [fresh, Bool.and_eq_true] at hf
  have hlive : ∀ k y, geth ((d, some (true, x)) :: (nm, none) :: σ.h) k = some (true, y) → k ≠ d → k ≠ nm ∧ geth σ.h k = some (true, y) := by
    intro k y h hk
    simp only [geth] at h
    have : (d == k) = false := by simpa using fun e => hk e.symm
    rw [this] at h
    simp only [cond_false] at h
    cases hn : nm == k
    · rw [hn] at h; exact ⟨fun e => by simp [e] at hn, h⟩
    · rw [hn] at h; simp at h
  have hdx : ∀ y, geth ((d, some (true, x)) :: (nm, none) :: σ.h) d = some (true, y) → y = x := by
    intro y h; simp [geth] at h; exact h.symm
  have hok : ∀ b, okOf C.F σ.h ι w b → okOf C.F ((d, some (true, x)) :: (nm, none) :: σ.h) (fun k => if k = d then ι nm else ι k) w b := by
    intro b h
    refine ⟨h.1, fun k y c hy => ?_, h.2.2⟩
    by_cases hk : k = d
    · subst hk
      simp only [if_true]
      exact h.2.1 nm x c hl
    · simp only [hk, if_false]
      exact h.2.1 k y c (hlive k y hy hk).2
  have hne : ∀ (A : AV), A.refs d = false → ∀ k, A.refs k = true → (if k = d then ι nm else ι k) = ι k := by
    intro A hA k hk
    rw [if_neg]
    rintro rfl
    rw [hA] at hk; cases hk
  refine ⟨fun s => RepA.tr hok (fun _ _ => rfl) _ _ (hne _ (get_refs hf.1 s)) (S.env s), fun k y hy => ?_, ?_, S.os, S.tape, S.output, S.size, S.old, S.def0, S.tms⟩
  · by_cases hk : k = d
    · subst hk
      have := hdx y hy
      subst this
      have h0 := S.ent nm y hl
      have hr : ∀ j, y.refs j = true → (if j = k then ι nm else ι j) = ι j := by
        intro j hj
        rw [if_neg]
        rintro rfl
        rw [hxr] at hj; cases hj
      cases y with
      | box T c =>
        obtain ⟨b, cap, cur, h1, h2, h3, h4⟩ := h0
        exact ⟨b, cap, cur, by simp [h1], h2, h3, RepAs.tr hok (fun _ _ => rfl) true c _ (fun j hj => hr j hj) h4⟩
      | arr T n l =>
        rcases h0 with ⟨h1, h2⟩ | ⟨b, cap, cur, h1, h2, h3, h4, h5, h6, h7⟩
        · exact .inl ⟨by simp [h1], h2⟩
        · exact .inr ⟨b, cap, cur, by simp [h1], h2, h3, h4, h5, h6, RepDss.tr hok (fun _ _ => rfl) n l _ h7⟩
      | mp n l =>
        obtain ⟨b, es, c, h1, h2, h3, h4, h5⟩ := h0
        exact ⟨b, es, c, by simp [h1], h2, h3, RepEs.tr hok (fun _ _ => rfl) h4, h5⟩
      | it n l cur =>
        obtain ⟨b, m, es, c, sn, h1, h2, h3, h4, h5, h6, h7, h8⟩ := h0
        exact ⟨b, m, es, c, sn, by simp [h1], h2, h3, hok m h4, h5, h6, RepEs.tr hok (fun _ _ => rfl) h7, CurOk.tr hok (fun _ _ => rfl) h8⟩
    · have h1 := (hlive k y hy hk).2
      have h2 := geth_refs hf.2 h1
      refine (S.ent k y h1).tr hok (fun _ _ => rfl) (fun _ _ _ => rfl) (by simp [hk]) (fun j hj => ?_)
      rw [if_neg]
      rintro rfl
      rw [h2] at hj; cases hj
  · intro k k' y y' b c c' h h' hkk hi
    by_cases hk : k = d
    · subst hk
      have hk' : k' ≠ k := fun e => hkk e.symm
      simp only [if_true] at hi
      simp only [hk', if_false]
      obtain ⟨n1, n2⟩ := hlive _ _ h' hk'
      exact S.inj nm k' x y' b c c' hl n2 (fun e => n1 e.symm) hi
    · simp only [hk, if_false] at hi
      obtain ⟨n1, n2⟩ := hlive _ _ h hk
      by_cases hk' : k' = d
      · subst hk'
        simp only [if_true]
        intro hpp
        exact S.inj nm k x y b c' c hl n2 (fun e => n1 e.symm) hpp hi
      · simp only [hk', if_false]
        exact S.inj k k' y y' b c c' n2 (hlive _ _ h' hk').2 hkk hi

theorem SimI.shadow (S : SimI C σ ι a w) (nm : Nat) (x : Ent) : SimI C ⟨σ.e, (nm, some (false, x)) :: σ.h⟩ ι a w := by
  have hlive : ∀ k y, geth ((nm, some (false, x)) :: σ.h) k = some (true, y) → geth σ.h k = some (true, y) := by
    intro k y h
    simp only [geth] at h
    cases hk : nm == k
    · rw [hk] at h; exact h
    · rw [hk] at h; simp at h
  have hok : ∀ b, okOf C.F σ.h ι w b → okOf C.F ((nm, some (false, x)) :: σ.h) ι w b := fun b h => ⟨h.1, fun k x c hx => h.2.1 k x c (hlive k x hx), h.2.2⟩
  refine ⟨fun s => RepA.tr hok (fun _ _ => rfl) _ _ (fun _ _ => rfl) (S.env s), fun k x hx => ?_, fun k k' x x' b c c' h h' => S.inj k k' x x' b c c' (hlive _ _ h) (hlive _ _ h'), S.os, S.tape, S.output, S.size, S.old, S.def0, S.tms⟩
  exact (S.ent k x (hlive k x hx)).tr hok (fun _ _ => rfl) (fun _ _ _ => rfl) rfl (fun _ _ => rfl)

end
end Go.Eng

namespace Go.Eng
open Go.RowKit


structure Out where
  av : AV
  hp : Hp
  side : Prop
  know : Prop

def sp : AV → AV
  | .gd _ x => sp x
  | .pin _ x => sp x
  | x => x
def pk (g : Bool) : AV → Prop
  | .gd g' x => (g = true → g' = true) ∧ pk g x
  | .pin _ x => pk g x
  | _ => True

def opnd (e : List (Nat × AV)) : Operand → AV
  | .tmp t => get e t
  | .const v => .dat (dOf v)
  | .func f => .dat (.v (.func (.func f) #[] #[]))
  | .global _ => .un

section
variable {C : Ctx} {σ : St} {ι : Nat → Option (Nat × Nat)} {a : Act} {w : World} {ok : Nat → Prop}

theorem sp_rep {g : Bool} (hg : g = true) : ∀ {x : AV} {v : Value}, pk g x → RepA ok ι w x v → RepA ok ι w (sp x) v
  | .gd g' x, v, hp, h => by
    simp only [pk] at hp
    simp only [RepA] at h
    simp only [sp]
    exact sp_rep hg hp.2 (h.1 (hp.1 hg))
  | .pin u x, v, hp, h => by
    simp only [pk] at hp
    simp only [RepA] at h
    simp only [sp]
    exact sp_rep hg hp h.2
  | .un, v, hp, h | .dat _, v, hp, h | .agg _, v, hp, h | .tup _, v, hp, h | .rp _, v, hp, h | .pt .., v, hp, h | .ep .., v, hp, h | .vw .., v, hp, h | .cl .., v, hp, h | .mp .., v, hp, h => by simpa only [sp] using h

theorem SimI.opnd (S : SimI C σ ι a w) (x : Operand) : RepA (okOf C.F σ.h ι w) ι w (opnd σ.e x) (a.eval x) := by
  cases x with
  | tmp t => exact S.env t
  | const v => simp only [Eng.opnd, RepA, Act.eval]; exact RepD_dOf _ _ _
  | func f => simp only [Eng.opnd, RepA, RepD, Act.eval]
  | global g => simp only [Eng.opnd, RepA]

theorem SimI.sopnd (S : SimI C σ ι a w) {g : Bool} (hg : g = true) (x : Operand) (hp : pk g (Eng.opnd σ.e x)) : RepA (okOf C.F σ.h ι w) ι w (sp (Eng.opnd σ.e x)) (a.eval x) :=
  sp_rep hg hp (S.opnd x)
end

def cellsOf : AV → Option (List AV)
  | .dat (.agg l) => some (l.map AV.dat)
  | .agg l => some l
  | .dat (.i n) => some [.dat (.i n)]
  | .dat (.b c) => some [.dat (.b c)]
  | .dat (.v u) => bif u.oneCell' then some [.dat (.v u)] else none
  | .dat (.sl n l) => some [.dat (.sl n l)]
  | .dat (.bx l) => some [.dat (.bx l)]
  | .pt nm o => some [.pt nm o]
  | .ep nm k f n => some [.ep nm k f n]
  | .vw nm o m n => some [.vw nm o m n]
  | .rp l => some [.dat (.bx l)]
  | .cl f l => some [.cl f l]
  | .mp nm => some [.mp nm]
  | _ => none

def allDat : List AV → Option (List D)
  | [] => some []
  | .dat d :: l => (allDat l).map (d :: ·)
  | _ :: _ => none
def mkAgg (l : List AV) : AV := match allDat l with
  | some ds => .dat (.agg ds)
  | none => .agg l

def spl {α : Type} (l : List α) (o : Nat) (xs : List α) : List α := l.take o ++ xs ++ l.drop (o + xs.length)

section
variable {ι : Nat → Option (Nat × Nat)} {w : World} {ok : Nat → Prop}

theorem allDat_eq : ∀ {l : List AV} {ds : List D}, allDat l = some ds → l = ds.map AV.dat
  | [], ds, h => by simp [allDat] at h; subst h; rfl
  | .dat d :: l, ds, h => by
    simp only [allDat, Option.map_eq_some_iff] at h
    obtain ⟨ds', h1, rfl⟩ := h
    simp [allDat_eq h1]
  | .un :: l, ds, h | .agg _ :: l, ds, h | .tup _ :: l, ds, h | .rp _ :: l, ds, h | .pt .. :: l, ds, h | .ep .. :: l, ds, h | .vw .. :: l, ds, h | .gd .. :: l, ds, h | .pin .. :: l, ds, h | .cl .. :: l, ds, h | .mp .. :: l, ds, h => by simp [allDat] at h

theorem mkAgg_rep {l : List AV} {vs : List Value} (h : RepAs ok ι w true l vs) : RepA ok ι w (mkAgg l) (.agg vs.toArray) := by
  unfold mkAgg
  split
  · rename_i ds hd
    have := allDat_eq hd
    subst this
    simp only [RepA, RepD]
    exact ⟨vs, rfl, RepAs_dat.1 h⟩
  · simp only [RepA]
    exact ⟨vs, rfl, h⟩

theorem cellsOf_rep {a : AV} {v : Value} {l : List AV} (h : RepA ok ι w a v) (hc : cellsOf a = some l) : RepAs ok ι w true l v.cells.toList := by
  have one : ∀ {a : AV} {v : Value}, RepA ok ι w a v → v.oneCell' = true → RepAs ok ι w true [a] v.cells.toList := by
    intro a v h h1
    have e : v.cells.toList = [v] := by cases v <;> simp [Value.oneCell'] at h1 <;> rfl
    rw [e]
    simp only [RepAs]
    exact ⟨v, [], rfl, h, fun _ => h1, rfl⟩
  unfold cellsOf at hc
  split at hc
  · simp only [Option.some.injEq] at hc; subst hc
    simp only [RepA, RepD] at h
    obtain ⟨vs, rfl, h⟩ := h
    simp only [Value.cells]
    exact RepAs_dat.2 h
  · simp only [Option.some.injEq] at hc; subst hc
    simp only [RepA] at h
    obtain ⟨vs, rfl, h⟩ := h
    exact h
  · simp only [Option.some.injEq] at hc; subst hc
    exact one h (by simp only [RepA, RepD] at h; subst h; rfl)
  · simp only [Option.some.injEq] at hc; subst hc
    exact one h (by simp only [RepA, RepD] at h; subst h; rfl)
  · rename_i u
    cases hu : u.oneCell'
    · simp [hu] at hc
    · simp only [hu, cond_true, Option.some.injEq] at hc; subst hc
      exact one h (by simp only [RepA, RepD] at h; subst h; exact hu)
  · simp only [Option.some.injEq] at hc; subst hc
    refine one h ?_
    simp only [RepA, RepD] at h
    rcases h with ⟨_, ⟨_, a, cap, rfl⟩ | ⟨b, o, cap, vs, rfl, _⟩⟩ <;> rfl
  · simp only [Option.some.injEq] at hc; subst hc
    refine one h ?_
    simp only [RepA, RepD] at h
    obtain ⟨b, o, vs, rfl, _⟩ := h; rfl
  · simp only [Option.some.injEq] at hc; subst hc
    refine one h ?_
    simp only [RepA] at h
    obtain ⟨b, c, _, rfl⟩ := h; rfl
  · simp only [Option.some.injEq] at hc; subst hc
    refine one h ?_
    simp only [RepA] at h
    obtain ⟨b, c, _, rfl⟩ := h; rfl
  · simp only [Option.some.injEq] at hc; subst hc
    refine one h ?_
    simp only [RepA] at h
    rcases h with ⟨_, rfl, _⟩ | ⟨b, c, _, rfl, _⟩ <;> rfl
  · simp only [Option.some.injEq] at hc; subst hc
    refine one (by simp only [RepA, RepD] at h ⊢; exact h) ?_
    simp only [RepA] at h
    obtain ⟨b, o, vs, rfl, _⟩ := h; rfl
  · simp only [Option.some.injEq] at hc; subst hc
    refine one h ?_
    simp only [RepA] at h
    obtain ⟨vs, rfl, _⟩ := h; rfl
  · simp only [Option.some.injEq] at hc; subst hc
    refine one h ?_
    simp only [RepA] at h
    obtain ⟨b, c, _, rfl⟩ := h; rfl
  · cases hc

theorem RepAs_spl {l xs : List AV} {vs ws : List Value} {o : Nat} (h : RepAs ok ι w true l vs) (hx : RepAs ok ι w true xs ws) : RepAs ok ι w true (spl l o xs) (spl vs o ws) := by
  unfold spl
  rw [RepAs_length hx]
  exact RepAs_append (RepAs_append (RepAs_take o h) hx) (RepAs_drop _ h)

theorem RepDs_spl {l xs : List D} {vs ws : List Value} {o : Nat} (h : RepDs ok w l vs) (hx : RepDs ok w xs ws) : RepDs ok w (spl l o xs) (spl vs o ws) := by
  unfold spl
  rw [RepDs_length hx]
  exact RepDs_append (RepDs_append (RepDs_take o h) hx) (RepDs_drop _ h)
end

theorem foldl_set_spl (off : Nat) : ∀ (xs : List Value) (k : Nat) (cells : Array Value), off + k + xs.length ≤ cells.size →
    ((xs.zipIdx k).foldl (fun cs (p : Value × Nat) => cs.setIfInBounds (off + p.2) p.1) cells).toList = spl cells.toList (off + k) xs
  | [], k, cells, h => by simp [spl]
  | x :: xs, k, cells, h => by
    simp only [List.length_cons] at h
    simp only [List.zipIdx_cons, List.foldl_cons]
    rw [foldl_set_spl off xs (k + 1) _ (by simp; omega)]
    unfold spl
    have hk : off + k < cells.toList.length := by simp; omega
    simp only [Array.toList_setIfInBounds]
    apply List.ext_getElem?
    intro j
    simp only [List.getElem?_append, List.length_append, List.length_take, List.getElem?_take, List.getElem?_drop, List.getElem?_set, List.length_set, List.length_cons, List.getElem?_cons]
    have hm : min (off + (k + 1)) cells.toList.length = off + k + 1 := by simp at hk ⊢; omega
    have hm2 : min (off + k) cells.toList.length = off + k := by simp at hk ⊢; omega
    simp only [hm, hm2]
    by_cases h1 : j < off + k
    · have e1 : j < off + k + 1 := by omega
      have e2 : j < off + k + 1 + xs.length := by omega
      have e3 : j < off + k + (xs.length + 1) := by omega
      have e4 : j < off + (k + 1) := by omega
      have e5 : ¬ off + k = j := by omega
      simp [h1, e1, e2, e3, e4, e5]
    · by_cases h2 : j = off + k
      · subst h2
        have e1 : off + k < off + k + 1 + xs.length := by omega
        have e3 : off + k < off + k + (xs.length + 1) := by omega
        have e4 : off + k < off + (k + 1) := by omega
        simp at hk
        simp [e1, e3, e4, hk]
      · by_cases h3 : j < off + k + 1 + xs.length
        · have e1 : ¬ j < off + k + 1 := by omega
          have e3 : j < off + k + (xs.length + 1) := by omega
          have e6 : ¬ j - (off + k) = 0 := by omega
          have e7 : j - (off + k) - 1 = j - (off + k + 1) := by omega
          simp [h1, e1, h3, e3, e6, e7]
        · have e3 : ¬ j < off + k + (xs.length + 1) := by omega
          have e5 : ¬ off + k = off + (k + 1) + xs.length + (j - (off + k + 1 + xs.length)) := by omega
          have e6 : off + (k + 1) + xs.length + (j - (off + k + 1 + xs.length)) = off + k + (xs.length + 1) + (j - (off + k + (xs.length + 1))) := by omega
          simp only [h3, e3, if_false, e6]
          rw [if_neg (by omega)]

def bld (place : Nat → Option (Nat × Nat)) : List (Nat × AV) → List AV → Option (List AV)
  | [], l => some l
  | (i, x) :: rest, l => match place i with
    | none => none
    | some (off, size) => match cellsOf (sp x) with
      | none => none
      | some cs => bif cs.length == size && decide ((off + size) ≤ l.length) then bld place rest (spl l off cs) else none

section
variable {ι : Nat → Option (Nat × Nat)} {w : World} {ok : Nat → Prop}

theorem bld_rep {g : Bool} (hg : g = true) (place : Nat → Option (Nat × Nat)) : ∀ (ps : List (Nat × AV)) (vs : List (Nat × Value)) (l l' : List AV) (cells : Array Value),
    ps.map (·.1) = vs.map (·.1) → (∀ (k : Nat) (p : Nat × AV) (q : Nat × Value), ps[k]? = some p → vs[k]? = some q → RepA ok ι w p.2 q.2 ∧ pk g p.2) →
    RepAs ok ι w true l cells.toList → bld place ps l = some l' → ∃ cells', Instr.fill place cells vs = some cells' ∧ RepAs ok ι w true l' cells'.toList
  | [], [], l, l', cells, _, _, h, hb => by
    simp only [bld, Option.some.injEq] at hb; subst hb
    exact ⟨cells, rfl, h⟩
  | [], _ :: _, l, l', cells, hm, _, h, hb => by simp at hm
  | _ :: _, [], l, l', cells, hm, _, h, hb => by simp at hm
  | (i, x) :: ps, (i', v) :: vs, l, l', cells, hm, hr, h, hb => by
    simp only [List.map_cons, List.cons.injEq] at hm
    obtain ⟨rfl, hm⟩ := hm
    simp only [bld] at hb
    cases hp : place i with
    | none => simp [hp] at hb
    | some os =>
      obtain ⟨off, size⟩ := os
      simp only [hp] at hb
      cases hc : cellsOf (sp x) with
      | none => simp [hc] at hb
      | some cs =>
        simp only [hc] at hb
        obtain ⟨hx, hpk⟩ := hr 0 (i, x) (i, v) rfl rfl
        have hcs := cellsOf_rep (sp_rep hg hpk hx) hc
        have hl1 := RepAs_length hcs
        have hl2 := RepAs_length h
        cases ht : (cs.length == size && decide ((off + size) ≤ l.length)) with
        | false => simp [ht] at hb
        | true =>
          simp only [ht, cond_true] at hb
          simp only [Bool.and_eq_true, beq_iff_eq, decide_eq_true_eq] at ht
          have e := foldl_set_spl off v.cells.toList 0 cells (by simp at hl1 hl2 ⊢; omega)
          simp only [Nat.add_zero] at e
          have hsz : v.cells.size = size := by simp at hl1; omega
          have hcell : cells.size = l.length := by simpa using hl2
          obtain ⟨cells', h1, h2⟩ := bld_rep hg place ps vs (spl l off cs) l' (v.cells.zipIdx.foldl (fun cs (p : Value × Nat) => cs.setIfInBounds (off + p.2) p.1) cells) hm
            (fun k p q hk hq => hr (k + 1) p q (by simpa using hk) (by simpa using hq)) (by
              rw [← Array.foldl_toList, Array.toList_zipIdx, e]
              exact RepAs_spl h hcs) hb
          refine ⟨cells', ?_, h2⟩
          simp only [Instr.fill, hp]
          rw [if_neg (by simp [hsz]; omega)]
          exact h1
end
end Go.Eng

namespace Go.Eng
open Go.RowKit

section
variable (P : Program)
def tyOf (T : Nat) : Option (Nat × Bool) :=
  match P.info? T, P.underlying T with
  | some i, some (.struct _) => some (i.size, true)
  | some i, some (.array ..) => some (i.size, true)
  | some i, some _ => some (i.size, false)
  | _, _ => none
end

def isI : AV → Option (IntKind × Int)
  | .dat (.i n) => some (.i64, n)
  | .dat (.v (.int k n)) => some (k, n)
  | _ => none

def binI (op : BinOp) (k : IntKind) (m n : Int) : Option (D × Prop) :=
  match op with
  | .add => some (dOf (.int k (k.wrap (m + n))), True)
  | .sub => some (dOf (.int k (k.wrap (m - n))), True)
  | .mul => some (dOf (.int k (k.wrap (m * n))), True)
  | .quo => some (dOf (.int k (k.wrap (m.tdiv n))), n ≠ 0)
  | .rem => some (dOf (.int k (m.tmod n)), n ≠ 0)
  | .and => some (dOf (.int k (bits .and k m n)), True)
  | .or => some (dOf (.int k (bits .or k m n)), True)
  | .xor => some (dOf (.int k (bits .xor k m n)), True)
  | .andNot => some (dOf (.int k (bits .andNot k m n)), True)
  | .eql => some (.b (m == n), True)
  | .neq => some (.b (m != n), True)
  | .lss => some (.b (decide (m < n)), True)
  | .leq => some (.b (decide (m ≤ n)), True)
  | .gtr => some (.b (decide (n < m)), True)
  | .geq => some (.b (decide (n ≤ m)), True)
  | _ => none

def shI (op : BinOp) (k : IntKind) (m n : Int) : Option (D × Prop) :=
  match op with
  | .shl => some (dOf (.int k (k.wrap (m * 2 ^ n.toNat))), 0 ≤ n ∧ n ≤ k.bits)
  | .shr => some (dOf (.int k (m / 2 ^ n.toNat)), 0 ≤ n ∧ n ≤ k.bits)
  | _ => none

def eqL : List D → List D → Option Bool
  | [], [] => some true
  | .i m :: l, .i n :: l' => (eqL l l').map fun r => (m == n) && r
  | _, _ => none

def eqFs (P : Program) : List Field → Nat → Bool
  | [], _ => true
  | f :: fs, k => f.name != "_" && f.offset == k && (match P.underlying f.type with | some (.int _) => true | _ => false) && eqFs P fs (k + 1)
def eqTy (P : Program) (T : Nat) : Option Nat :=
  match P.underlying T with
  | some (.struct fs) => bif eqFs P fs.toList 0 && !P.stoodInHeld T && !P.eqGuardType P.depth T then some fs.size else none
  | _ => none
def isBo (P : Program) (T : Nat) : Bool := match P.underlying T with
  | some .bool => true
  | _ => false

def notIf (op : BinOp) (r : Bool) : Option Bool := match op with
  | .eql => some r
  | .neq => some !r
  | _ => none

def vBin (P : Program) (op : BinOp) (T : Nat) (g : Bool) (x y : AV) : Option Out :=
  match isI (sp x), isI (sp y) with
  | some (k, m), some (k', n) =>
    match shI op k m n with
    | some (d, s) => some ⟨.dat d, [], pk g x ∧ pk g y ∧ s, True⟩
    | none => bif k == k' then (match binI op k m n with
      | some (d, s) => some ⟨.dat d, [], pk g x ∧ pk g y ∧ s, True⟩
      | none => none) else none
  | _, _ => match sp x, sp y with
    | .dat (.b m), .dat (.b n) => bif isBo P T then (match notIf op (m == n) with
      | some r => some ⟨.dat (.b r), [], pk g x ∧ pk g y, True⟩
      | none => none) else none
    | .dat (.agg l), .dat (.agg l') => match eqTy P T, eqL l l' with
      | some n, some r => bif n == l.length then (match notIf op r with
        | some r => some ⟨.dat (.b r), [], pk g x ∧ pk g y, True⟩
        | none => none) else none
      | _, _ => none
    | _, _ => none

def vUn (op : UnOp) (g : Bool) (x : AV) : Option Out :=
  match op, sp x with
  | .not, .dat (.b c) => some ⟨.dat (.b !c), [], pk g x, True⟩
  | .neg, .dat (.i n) => some ⟨.dat (.i (IntKind.i64.wrap (0 - n))), [], pk g x, True⟩
  | _, _ => none

def vPick (g : Bool) (c x y : AV) : Option Out :=
  match sp c, sp x, sp y with
  | .dat (.b cc), .dat (.b m), .dat (.b n) => some ⟨.dat (.b (bif cc then m else n)), [], pk g c ∧ pk (g && cc) x ∧ pk (g && !cc) y, True⟩
  | _, _, _ => none

def vConv (P : Program) (src dst : Nat) (g : Bool) (x : AV) : Option Out :=
  match isI (sp x), ikOf P dst with
  | some (_, n), some k => bif (P.underlying src).isSome then some ⟨.dat (dOf (.int k (k.wrap n))), [], pk g x, True⟩ else none
  | _, _ => none

def vExtr (g : Bool) (x : AV) (i : Nat) : Option Out :=
  match sp x with
  | .tup l => match l[i]? with
    | some a => some ⟨a, [], pk g x, True⟩
    | none => none
  | _ => none

def rdA (sz : Nat) (ag : Bool) (c : List AV) : Option AV :=
  bif ag then (bif decide (sz ≤ c.length) then some (mkAgg (c.take sz)) else none) else c[0]?
def rdD (sz : Nat) (ag : Bool) (c : List D) : Option AV :=
  bif ag then (bif decide (sz ≤ c.length) then some (.dat (.agg (c.take sz))) else none) else (match c with | d :: _ => some (.dat d) | [] => none)

def dfD (P : Program) : Nat → Nat → List D
  | 0, _ => []
  | n + 1, T => match P.underlying T with
    | some (.slice e) => [.sl (szOf P e) []]
    | some (.struct fs) => fs.toList.flatMap fun f => dfD P n f.type
    | some (.array k e) => (List.replicate k (dfD P n e)).flatten
    | _ => (zC P T).getD []
def elt (P : Program) (T : Nat) (l : List (List D)) (k : Nat) : List D := l.getD k (dfD P 9 T)

def vLoad (P : Program) (T : Nat) (g : Bool) (h : Hp) (x : AV) : Option Out :=
  match tyOf P T with
  | none => none
  | some (sz, ag) => match sp x with
    | .pt nm o => match geth h nm with
      | some (g', .box _ c) => match rdA sz ag (c.drop o) with
        | some r => some ⟨r, [], pk g x ∧ (g = true → g' = true), True⟩
        | none => none
      | _ => none
    | .rp l => match rdD sz ag l with
      | some r => some ⟨r, [], pk g x, True⟩
      | none => none
    | .ep nm k f n => match geth h nm with
      | some (g', .arr T' n' l) => match rdD sz ag ((elt P T' l k).drop f) with
        | some r => bif n == n' then some ⟨r, [], pk g x ∧ (g = true → g' = true) ∧ k < l.length, True⟩ else none
        | none => none
      | _ => none
    | .dat (.bx l) => match rdD sz ag l with
      | some r => some ⟨r, [], pk g x, True⟩
      | none => none
    | _ => none

def vFld (P : Program) (T : Nat) (g : Bool) (x : AV) (f : Nat) : Option Out :=
  match fldOf P T f with
  | none => none
  | some (off, t) => bif szOf P t == 0 then none else match sp x with
    | .pt nm o => some ⟨.pt nm (o + off), [], pk g x, True⟩
    | .ep nm k f n => some ⟨.ep nm k (f + off) n, [], pk g x, True⟩
    | .rp l => some ⟨.rp (l.drop off), [], pk g x, True⟩
    | .dat (.bx l) => some ⟨.rp (l.drop off), [], pk g x, True⟩
    | _ => none

def vNil (g : Bool) (x : AV) : Option Out :=
  match sp x with
  | .pt nm o => some ⟨.pt nm o, [], pk g x, True⟩
  | .dat (.bx l) => some ⟨.dat (.bx l), [], pk g x, True⟩
  | .rp l => some ⟨.rp l, [], pk g x, True⟩
  | _ => none

def vIdx (P : Program) (T : Nat) (g : Bool) (x y : AV) : Option Out :=
  match isI (sp y) with
  | none => none
  | some (_, i) => match sp x with
    | .vw nm o m n => match elOf P T with
      | some e => bif szOf P e == n && (P.info? e).isSome then some ⟨.ep nm (o + i.toNat) 0 n, [], pk g x ∧ pk g y ∧ 0 ≤ i ∧ i < m, True⟩ else none
      | none => none
    | .dat (.sl n l) => match elOf P T with
      | some e => bif szOf P e == n && (P.info? e).isSome then some ⟨.rp (elt P e l i.toNat), [], pk g x ∧ pk g y ∧ 0 ≤ i ∧ i < l.length, True⟩ else none
      | none => none
    | .pt nm o => match arOf P T with
      | some (len, e) => bif (P.info? e).isSome then some ⟨.pt nm (o + i.toNat * szOf P e), [], pk g x ∧ pk g y ∧ 0 ≤ i ∧ i < len, True⟩ else none
      | none => none
    | _ => none

def cut (l : List D) (o : Nat) : Nat → List D
  | 0 => []
  | n + 1 => l.getD o (.i 0) :: cut l (o + 1) n
def vIndex (P : Program) (T : Nat) (g : Bool) (x y : AV) : Option Out :=
  match isI (sp y), sp x, arOf P T with
  | some (_, i), .dat (.agg ds), some (len, e) => match tyOf P e with
    | some (sz, ag) => bif ds.length == len * sz && (ag || sz == 1) then some ⟨.dat (bif ag then .agg (cut ds (i.toNat * sz) sz) else ds.getD (i.toNat * sz) (.i 0)), [], pk g x ∧ pk g y ∧ 0 ≤ i ∧ i < len, True⟩ else none
    | none => none
  | _, _, _ => none

def vFieldV (P : Program) (T : Nat) (g : Bool) (x : AV) (f : Nat) : Option Out :=
  match fldOf P T f, sp x with
  | some (off, t), .dat (.agg ds) => match tyOf P t with
    | some (sz, ag) => bif decide (off + sz ≤ ds.length) && (ag || sz == 1) then some ⟨.dat (bif ag then .agg (cut ds off sz) else ds.getD off (.i 0)), [], pk g x, True⟩ else none
    | none => none
  | _, _ => none

def Snd (C : Ctx) (o : Oper) (g : Bool) (σ : St) (out : Out) : Prop :=
  ∀ ι a w, SimI C σ ι a w → g = true → out.side →
    ∃ nx w' v, (execOp a.eval o).run C.P w = .ok nx w' ∧ (nx = .value v ∨ (nx = .skip ∧ v = undef)) ∧ out.know ∧
      ∃ ι', SimI C ⟨σ.e, out.hp ++ σ.h⟩ ι' a w' ∧ RepA (okOf C.F (out.hp ++ σ.h) ι' w') ι' w' out.av v

section
variable {C : Ctx} {σ : St} {o : Oper} {g : Bool}

theorem Snd.pure {av : AV} {side know : Prop} (h : ∀ ι a w, SimI C σ ι a w → g = true → side → ∃ v, (execOp a.eval o).run C.P w = .ok (.value v) w ∧ know ∧ RepA (okOf C.F σ.h ι w) ι w av v) :
    Snd C o g σ ⟨av, [], side, know⟩ := by
  intro ι a w S hg hs
  obtain ⟨v, h1, h2, h3⟩ := h ι a w S hg hs
  exact ⟨_, w, v, h1, .inl rfl, h2, ι, S, h3⟩

theorem isI_rep {ok : Nat → Prop} {ι : Nat → Option (Nat × Nat)} {w : World} {x : AV} {v : Value} {k : IntKind} {n : Int} (h : RepA ok ι w x v) (hi : isI x = some (k, n)) : v = .int k n := by
  unfold isI at hi
  split at hi
  · simp only [Option.some.injEq, Prod.mk.injEq] at hi
    obtain ⟨rfl, rfl⟩ := hi
    simpa only [RepA, RepD] using h
  · simp only [Option.some.injEq, Prod.mk.injEq] at hi
    obtain ⟨rfl, rfl⟩ := hi
    simpa only [RepA, RepD] using h
  · cases hi

theorem RepA_dOf {ok : Nat → Prop} {ι : Nat → Option (Nat × Nat)} {w : World} (u : Value) : RepA ok ι w (.dat (dOf u)) u := by
  simp only [RepA]; exact RepD_dOf _ _ _

theorem run_binI {P : Program} (w : World) (op : BinOp) (T : Nat) (k : IntKind) (m n : Int) (d : D) (s : Prop) (h : binI op k m n = some (d, s)) (hs : s) :
    ∃ u, (binOp op T (.int k m) (.int k n)).run P w = .ok u w ∧ ∀ ok, RepD ok w d u := by
  cases op <;> simp only [binI, Option.some.injEq, Prod.mk.injEq, reduceCtorEq] at h
  all_goals obtain ⟨rfl, rfl⟩ := h
  case add => exact ⟨_, by simp [binOp, Op.intArith], fun ok => RepD_dOf _ _ _⟩
  case sub => exact ⟨_, by simp [binOp, Op.intArith], fun ok => RepD_dOf _ _ _⟩
  case mul => exact ⟨_, by simp [binOp, Op.intArith], fun ok => RepD_dOf _ _ _⟩
  case quo => exact ⟨_, by simp [binOp, Op.intDiv, hs], fun ok => RepD_dOf _ _ _⟩
  case rem => exact ⟨_, by simp [binOp, Op.intDiv, hs], fun ok => RepD_dOf _ _ _⟩
  case and => exact ⟨_, by simp [binOp, intBits_and], fun ok => RepD_dOf _ _ _⟩
  case or => exact ⟨_, by simp [binOp, intBits_or], fun ok => RepD_dOf _ _ _⟩
  case xor => exact ⟨_, by simp [binOp, intBits_xor], fun ok => RepD_dOf _ _ _⟩
  case andNot => exact ⟨_, by simp [binOp, intBits_andNot], fun ok => RepD_dOf _ _ _⟩
  case eql => exact ⟨_, by simp [binOp, Op.intCmp]; rfl, fun ok => by simp [RepD]⟩
  case neq => exact ⟨_, by simp [binOp, Op.intCmp]; rfl, fun ok => by simp [RepD]⟩
  case lss => exact ⟨_, by simp [binOp, Op.intCmp]; rfl, fun ok => by simp [RepD]⟩
  case leq => exact ⟨_, by simp [binOp, Op.intCmp]; rfl, fun ok => by simp [RepD]⟩
  case gtr => exact ⟨_, by simp [binOp, Op.intCmp]; rfl, fun ok => by simp [RepD]⟩
  case geq => exact ⟨_, by simp [binOp, Op.intCmp]; rfl, fun ok => by simp [RepD]⟩

theorem run_shI {P : Program} (w : World) (op : BinOp) (T : Nat) (k k' : IntKind) (m n : Int) (d : D) (s : Prop) (h : shI op k m n = some (d, s)) (hs : s) :
    ∃ u, (binOp op T (.int k m) (.int k' n)).run P w = .ok u w ∧ ∀ ok, RepD ok w d u := by
  cases op <;> simp only [shI, Option.some.injEq, Prod.mk.injEq, reduceCtorEq] at h
  all_goals obtain ⟨rfl, rfl⟩ := h
  case shl => exact ⟨_, by simp [binOp, shift_shl k k' m n hs.1 hs.2], fun ok => RepD_dOf _ _ _⟩
  case shr => exact ⟨_, by simp [binOp, shift_shr k k' m n hs.1 hs.2], fun ok => RepD_dOf _ _ _⟩

theorem run_eqGuard_int {P : Program} (w : World) (op : BinOp) (T : Nat) (x y : Operand) (k k' : IntKind) (m n : Int) : (eqGuard op T x y (.int k m) (.int k' n)).run P w = .ok () w := by
  unfold eqGuard
  cases op <;> rfl

theorem run_eqGuard_bool {P : Program} (w : World) (op : BinOp) (T : Nat) (x y : Operand) (m n : Bool) : (eqGuard op T x y (.bool m) (.bool n)).run P w = .ok () w := by
  unfold eqGuard
  cases op <;> rfl

theorem run_eqGuard_agg {P : Program} (w : World) (op : BinOp) (T : Nat) (x y : Operand) (m n : Array Value) (h : P.eqGuardType P.depth T = false) : (eqGuard op T x y (.agg m) (.agg n)).run P w = .ok () w := by
  unfold eqGuard
  cases op <;> simp [h]

theorem run_eqFields {P : Program} {ok : Nat → Prop} (d : Nat) : ∀ (fs : List Field) (l l' : List D) (k : Nat) (xs ys : Array Value) (r : Bool) (w : World), eqFs P fs k = true → fs.length = l.length →
    eqL l l' = some r → RepDs ok w l (xs.toList.drop k) → RepDs ok w l' (ys.toList.drop k) → (Op.eqFields (d + 1) xs ys fs).run P w = .ok r w
  | [], [], l', k, xs, ys, r, w, hf, hl, he, hx, hy => by
    cases l' with
    | nil => simp [eqL] at he; subst he; simp [Op.eqFields]
    | cons => simp [eqL] at he
  | f :: fs, d0 :: l, l', k, xs, ys, r, w, hf, hl, he, hx, hy => by
    cases d0 with
    | i m =>
      cases l' with
      | nil => simp [eqL] at he
      | cons d1 l' =>
        cases d1 with
        | i n =>
          simp only [eqL, Option.map_eq_some_iff] at he
          obtain ⟨r', he, rfl⟩ := he
          simp only [eqFs, Bool.and_eq_true, bne_iff_ne, beq_iff_eq] at hf
          obtain ⟨⟨⟨h1, h2⟩, h3⟩, h4⟩ := hf
          simp only [RepDs, RepD] at hx hy
          obtain ⟨vx, xs', ex, rfl, _, hx⟩ := hx
          obtain ⟨vy, ys', ey, rfl, _, hy⟩ := hy
          have gx : xs[k]? = some (.int .i64 m) := by
            have := congrArg (·[0]?) ex; simpa using this
          have gy : ys[k]? = some (.int .i64 n) := by
            have := congrArg (·[0]?) ey; simpa using this
          have dx : xs.toList.drop (k + 1) = xs' := by
            have := congrArg (List.drop 1) ex; simpa using this
          have dy : ys.toList.drop (k + 1) = ys' := by
            have := congrArg (List.drop 1) ey; simpa using this
          cases hu : P.underlying f.type with
          | none => simp [hu] at h3
          | some dd =>
            cases dd <;> simp [hu] at h3
            rename_i kk
            have ih := run_eqFields d fs l l' (k + 1) xs ys r' w h4 (by simpa using hl) he (dx ▸ hx) (dy ▸ hy)
            have hag : (isAgg f.type).run P w = .ok false w := by simp [isAgg, run_underlying hu]
            have px : (part f.type xs f.offset).run P w = .ok (.int .i64 m) w := by simp [part, hag, h2, gx]
            have py : (part f.type ys f.offset).run P w = .ok (.int .i64 n) w := by simp [part, hag, h2, gy]
            have hn : f.name ≠ "_" := h1
            simp only [Op.eqFields, hn, ne_eq, not_false_eq_true, if_true, Sem.run_bind, px, py, Result.andThen_ok, run_equalIn_int w d f.type .i64 kk m n hu, Sem.run_ite, ih, Sem.run_pure]
            cases m == n <;> simp
        | b c => simp [eqL] at he
        | v u => simp [eqL] at he
        | agg l => simp [eqL] at he
        | sl n l => simp [eqL] at he
        | bx l => simp [eqL] at he
        | any => simp [eqL] at he
    | b c => cases l' <;> simp [eqL] at he
    | v u => cases l' <;> simp [eqL] at he
    | agg l => cases l' <;> simp [eqL] at he
    | sl n l => cases l' <;> simp [eqL] at he
    | bx l => cases l' <;> simp [eqL] at he
    | any => cases l' <;> simp [eqL] at he
  | [], _ :: _, l', k, xs, ys, r, w, hf, hl, he, hx, hy => by simp at hl
  | _ :: _, [], l', k, xs, ys, r, w, hf, hl, he, hx, hy => by simp at hl

theorem snd_bin {op : BinOp} {T T' : Nat} {x y : Operand} {out : Out} (ho : o.op = .binOp op T x y T') (h : vBin C.P op T g (opnd σ.e x) (opnd σ.e y) = some out) : Snd C o g σ out := by
  unfold vBin at h
  split at h
  · rename_i k m k' n hx hy
    split at h
    · rename_i d s hsh
      simp only [Option.some.injEq] at h; subst h
      refine Snd.pure fun ι a w S hg hs => ?_
      obtain ⟨p1, p2, hs⟩ := hs
      have ex := isI_rep (S.sopnd hg x p1) hx
      have ey := isI_rep (S.sopnd hg y p2) hy
      obtain ⟨u, hu, hr⟩ := run_shI (P := C.P) w op T k k' m n d s hsh hs
      refine ⟨u, ?_, trivial, by simp only [RepA]; exact hr _⟩
      simp [execOp, ho, ex, ey, run_eqGuard_int, hu]
    · cases hk : k == k'
      · simp [hk] at h
      · simp only [hk, cond_true] at h
        have hk' : k = k' := by simpa using hk
        subst hk'
        split at h
        · rename_i d s hsh
          simp only [Option.some.injEq] at h; subst h
          refine Snd.pure fun ι a w S hg hs => ?_
          obtain ⟨p1, p2, hs⟩ := hs
          have ex := isI_rep (S.sopnd hg x p1) hx
          have ey := isI_rep (S.sopnd hg y p2) hy
          obtain ⟨u, hu, hr⟩ := run_binI (P := C.P) w op T k m n d s hsh hs
          refine ⟨u, ?_, trivial, by simp only [RepA]; exact hr _⟩
          simp [execOp, ho, ex, ey, run_eqGuard_int, hu]
        · cases h
  · split at h
    · rename_i m n hx hy
      cases hb : isBo C.P T
      · simp [hb] at h
      · simp only [hb, cond_true] at h
        split at h
        · rename_i r hr
          simp only [Option.some.injEq] at h; subst h
          refine Snd.pure fun ι a w S hg hs => ?_
          have ex := S.sopnd hg x hs.1
          have ey := S.sopnd hg y hs.2
          rw [hx] at ex; rw [hy] at ey
          simp only [RepA, RepD] at ex ey
          have ht : C.P.underlying T = some .bool := by
            unfold isBo at hb; split at hb <;> simp_all
          have he := run_equalIn_bool (P := C.P) w 9999 T m n ht
          refine ⟨.bool r, ?_, trivial, by simp only [RepA, RepD]⟩
          cases op <;> simp only [notIf, Option.some.injEq, reduceCtorEq] at hr <;> subst hr <;> simp [execOp, ho, ex, ey, run_eqGuard_bool, binOp, Op.equal, Op.maxDepth, he]
        · cases h
    · rename_i l l' hx hy
      split at h
      · rename_i n r hty hl
        cases hn : n == l.length
        · simp [hn] at h
        · simp only [hn, cond_true] at h
          split at h
          · rename_i r' hr
            simp only [Option.some.injEq] at h; subst h
            refine Snd.pure fun ι a w S hg hs => ?_
            have ex := S.sopnd hg x hs.1
            have ey := S.sopnd hg y hs.2
            rw [hx] at ex; rw [hy] at ey
            simp only [RepA, RepD] at ex ey
            obtain ⟨xs, ex, rx⟩ := ex
            obtain ⟨ys, ey, ry⟩ := ey
            unfold eqTy at hty
            split at hty
            · rename_i fs hu
              cases hc : (eqFs C.P fs.toList 0 && !C.P.stoodInHeld T && !C.P.eqGuardType C.P.depth T)
              · simp [hc] at hty
              · simp only [hc, cond_true, Option.some.injEq] at hty
                simp only [Bool.and_eq_true, Bool.not_eq_true'] at hc
                obtain ⟨⟨c1, c2⟩, c3⟩ := hc
                have hfs : C.P.fieldsOf T = fs := by simp [Program.fieldsOf, hu]
                have he := run_equalIn_struct (P := C.P) w 9999 T xs.toArray ys.toArray (by rw [hfs]; exact hu) c2
                rw [hfs, run_eqFields (ok := okOf C.F σ.h ι w) 9998 fs.toList l l' 0 xs.toArray ys.toArray r w c1 (by simp at hn; simp [hty, hn]) hl (by simpa using rx) (by simpa using ry)] at he
                refine ⟨.bool r', ?_, trivial, by simp only [RepA, RepD]⟩
                cases op <;> simp only [notIf, Option.some.injEq, reduceCtorEq] at hr <;> subst hr <;> simp [execOp, ho, ex, ey, run_eqGuard_agg w _ T x y _ _ c3, binOp, Op.equal, Op.maxDepth, he]
            · cases hty
          · cases h
      · cases h
    · cases h

theorem snd_un {op : UnOp} {T : Nat} {x : Operand} {out : Out} (ho : o.op = .unOp op T x) (h : vUn op g (opnd σ.e x) = some out) : Snd C o g σ out := by
  unfold vUn at h
  split at h
  · rename_i c hx
    simp only [Option.some.injEq] at h; subst h
    refine Snd.pure fun ι a w S hg hs => ?_
    have ex := S.sopnd hg x hs
    rw [hx] at ex
    simp only [RepA, RepD] at ex
    exact ⟨_, by simp [execOp, ho, ex, Op.unary]; rfl, trivial, by simp [RepA, RepD]⟩
  · rename_i c hx
    simp only [Option.some.injEq] at h; subst h
    refine Snd.pure fun ι a w S hg hs => ?_
    have ex := S.sopnd hg x hs
    rw [hx] at ex
    simp only [RepA, RepD] at ex
    exact ⟨_, by simp [execOp, ho, ex, Op.unary, Op.intArith]; rfl, trivial, by simp [RepA, RepD]⟩
  · cases h

theorem snd_pick {c x y : Operand} {out : Out} (ho : o.op = .pick c x y) (h : vPick g (opnd σ.e c) (opnd σ.e x) (opnd σ.e y) = some out) : Snd C o g σ out := by
  unfold vPick at h
  split at h
  · rename_i cc m n hc hx hy
    simp only [Option.some.injEq] at h; subst h
    refine Snd.pure fun ι a w S hg hs => ?_
    obtain ⟨p1, p2, p3⟩ := hs
    have ec := S.sopnd hg c p1
    rw [hc] at ec
    simp only [RepA, RepD] at ec
    cases cc with
    | true =>
      have ex := S.sopnd (by simp [hg]) x p2
      rw [hx] at ex
      simp only [RepA, RepD] at ex
      exact ⟨_, by simp [execOp, ho, ec, asBool]; rfl, trivial, by simp [RepA, RepD, ex]⟩
    | false =>
      have ex := S.sopnd (by simp [hg]) y p3
      rw [hy] at ex
      simp only [RepA, RepD] at ex
      exact ⟨_, by simp [execOp, ho, ec, asBool]; rfl, trivial, by simp [RepA, RepD, ex]⟩
  · cases h

theorem snd_conv {src dst : Nat} {x : Operand} {out : Out} (ho : o.op = .convert src dst x) (h : vConv C.P src dst g (opnd σ.e x) = some out) : Snd C o g σ out := by
  unfold vConv at h
  split at h
  · rename_i k n k' hx hk
    cases hs : (C.P.underlying src).isSome
    · simp [hs] at h
    · simp only [hs, cond_true, Option.some.injEq] at h; subst h
      refine Snd.pure fun ι a w S hg hsd => ?_
      have ex := isI_rep (S.sopnd hg x hsd) hx
      have hu : C.P.underlying dst = some (.int k') := by
        unfold ikOf at hk; split at hk <;> simp_all
      have hik : C.P.intKind dst = k' := by simp [Program.intKind, hu]
      have := run_convert_int (P := C.P) w src dst k n hs (by rw [hik]; exact hu)
      rw [hik] at this
      exact ⟨_, by simp [execOp, ho, ex, this], trivial, RepA_dOf _⟩
  · cases h

theorem snd_extr {x : Operand} {i : Nat} {out : Out} (ho : o.op = .extract x i) (h : vExtr g (opnd σ.e x) i = some out) : Snd C o g σ out := by
  unfold vExtr at h
  split at h
  · rename_i l hx
    split at h
    · rename_i av hl
      simp only [Option.some.injEq] at h; subst h
      refine Snd.pure fun ι a w S hg hs => ?_
      have ex := S.sopnd hg x hs
      rw [hx] at ex
      simp only [RepA] at ex
      obtain ⟨vs, ex, hr⟩ := ex
      obtain ⟨v, hv, hr, _⟩ := RepAs_get i hr hl
      exact ⟨v, by simp [execOp, ho, ex, Instr.extract, hv], trivial, hr⟩
    · cases h
  · cases h

theorem snd_move {x : Operand} (ho : o.op = .move x ∨ o.op = .assign x) : Snd C o g σ ⟨opnd σ.e x, [], True, True⟩ := by
  refine Snd.pure fun ι a w S hg _ => ⟨a.eval x, ?_, trivial, S.opnd x⟩
  rcases ho with ho | ho <;> simp [execOp, ho]

end
end Go.Eng

namespace Go.Eng
open Go.RowKit

section
variable {P : Program} {w : World} {ok : Nat → Prop} {ι : Nat → Option (Nat × Nat)}

theorem addr_add (b o j : Nat) : (⟨b, o, none⟩ : Addr).add j = ⟨b, o + j, none⟩ := by unfold Addr.add; split <;> simp_all

theorem ty_ag {T sz : Nat} (h : tyOf P T = some (sz, true)) : (isAgg T).run P w = .ok true w ∧ (sizeOf T).run P w = .ok sz w := by
  unfold tyOf at h
  split at h
  · rename_i i fs hi hu
    simp only [Option.some.injEq, Prod.mk.injEq] at h
    exact ⟨by simp [isAgg, run_underlying hu], by simp [sizeOf, typeInfo, hi, h.1]⟩
  · rename_i i fs e hi hu
    simp only [Option.some.injEq, Prod.mk.injEq] at h
    exact ⟨by simp [isAgg, run_underlying hu], by simp [sizeOf, typeInfo, hi, h.1]⟩
  · simp at h
  · simp at h

theorem ty_one {T sz : Nat} (h : tyOf P T = some (sz, false)) : (isAgg T).run P w = .ok false w ∧ (sizeOf T).run P w = .ok sz w := by
  unfold tyOf at h
  split at h
  · simp at h
  · simp at h
  · rename_i i d h1 h2 hi hu
    simp only [Option.some.injEq, Prod.mk.injEq, and_true] at h
    refine ⟨?_, by simp [sizeOf, typeInfo, hi, h]⟩
    cases d
    case struct fs => exact (h1 fs rfl).elim
    case array n e => exact (h2 n e rfl).elim
    all_goals simp [isAgg, run_underlying hu]
  · simp at h

theorem ty_size {T sz : Nat} {ag : Bool} (h : tyOf P T = some (sz, ag)) : (sizeOf T).run P w = .ok sz w := by
  cases ag
  · exact (ty_one h).2
  · exact (ty_ag h).2

theorem run_loadVar_ag {T sz b o : Nat} {vs : List Value} (h : tyOf P T = some (sz, true)) (hl : vs.length = sz) (hc : cellsAt w b o vs) :
    (loadVar T ⟨b, o, none⟩).run P w = .ok (.agg vs.toArray) w := by
  have h1 := (ty_ag (w := w) h).1
  have h2 := (ty_ag (w := w) h).2
  have h3 := run_loadCells_list (P := P) w ⟨b, o, none⟩ vs (fun j u hu => by rw [addr_add]; exact hc j u hu)
  rw [hl] at h3
  simp [loadVar, h1, h2, h3]

theorem run_loadVar_one {T sz : Nat} {a : Addr} {u : Value} (h : tyOf P T = some (sz, false)) (hc : w.cell? a = some u) :
    (loadVar T a).run P w = .ok u w := by
  have h1 := (ty_one (w := w) h).1
  simp [loadVar, h1, hc]

theorem rdD_load {T sz b o : Nat} {ag : Bool} {x : List D} {ws : List Value} {r : AV} (ht : tyOf P T = some (sz, ag)) (hx : RepDs ok w x ws) (hc : cellsAt w b o ws) (hr : rdD sz ag x = some r) :
    ∃ v, (loadVar T ⟨b, o, none⟩).run P w = .ok v w ∧ RepA ok ι w r v := by
  unfold rdD at hr
  cases ag
  · simp only [cond_false] at hr
    cases x with
    | nil => simp at hr
    | cons d x =>
      simp only [Option.some.injEq] at hr; subst hr
      simp only [RepDs] at hx
      obtain ⟨v, vs', rfl, h1, _, _⟩ := hx
      exact ⟨v, run_loadVar_one ht (hc 0 v (by simp)), by simpa only [RepA] using h1⟩
  · simp only [cond_true] at hr
    cases hb : decide (sz ≤ x.length)
    · simp [hb] at hr
    · simp only [hb, cond_true, Option.some.injEq] at hr; subst hr
      simp only [decide_eq_true_eq] at hb
      have hl := RepDs_length hx
      refine ⟨_, run_loadVar_ag (vs := ws.take sz) ht (by simp; omega) (fun j u hu => hc j u ?_), ?_⟩
      · rw [List.getElem?_take] at hu
        split at hu
        · exact hu
        · cases hu
      · simp only [RepA, RepD]
        exact ⟨_, rfl, RepDs_take sz hx⟩

theorem rdA_load {T sz b o : Nat} {ag : Bool} {x : List AV} {ws : List Value} {r : AV} (ht : tyOf P T = some (sz, ag)) (hx : RepAs ok ι w true x ws) (hc : cellsAt w b o ws) (hr : rdA sz ag x = some r) :
    ∃ v, (loadVar T ⟨b, o, none⟩).run P w = .ok v w ∧ RepA ok ι w r v := by
  unfold rdA at hr
  cases ag
  · simp only [cond_false] at hr
    obtain ⟨v, h1, h2, _⟩ := RepAs_get 0 hx hr
    exact ⟨v, run_loadVar_one ht (by simpa using hc 0 v h1), h2⟩
  · simp only [cond_true] at hr
    cases hb : decide (sz ≤ x.length)
    · simp [hb] at hr
    · simp only [hb, cond_true, Option.some.injEq] at hr; subst hr
      simp only [decide_eq_true_eq] at hb
      have hl := RepAs_length hx
      refine ⟨_, run_loadVar_ag (vs := ws.take sz) ht (by simp; omega) (fun j u hu => hc j u ?_), ?_⟩
      · rw [List.getElem?_take] at hu
        split at hu
        · exact hu
        · cases hu
      · exact mkAgg_rep (RepAs_take sz hx)

theorem cellsAt_block {b o : Nat} {cur : Array Value} {T : Nat} {fr : Nat × Nat} (h : w.heap[b]? = some (.cells cur T fr)) : cellsAt w b o (cur.toList.drop o) := by
  intro j u hu
  simp only [List.getElem?_drop, Array.getElem?_toList] at hu
  simp [World.cell?, h, hu]

theorem cellsAt_drop {b o k : Nat} {vs : List Value} (h : cellsAt w b o vs) : cellsAt w b (o + k) (vs.drop k) := by
  intro j u hu
  rw [List.getElem?_drop] at hu
  have := h (k + j) u hu
  rwa [show o + (k + j) = o + k + j by omega] at this

theorem cellsAt_take {b o k : Nat} {vs : List Value} (h : cellsAt w b o vs) : cellsAt w b o (vs.take k) := by
  intro j u hu
  rw [List.getElem?_take] at hu
  split at hu
  · exact h j u hu
  · cases hu

theorem elt_some {T k : Nat} {l : List (List D)} (hk : k < l.length) : l[k]? = some (elt P T l k) := by
  simp [elt, List.getElem?_eq_getElem hk, List.getD]
end

section
variable {C : Ctx} {σ : St} {o : Oper} {g : Bool}

theorem SimI.box {ι : Nat → Option (Nat × Nat)} {a : Act} {w : World} (S : SimI C σ ι a w) {nm T : Nat} {c : List AV} {g' : Bool} (h : geth σ.h nm = some (g', .box T c)) (hg : g' = true) :
    ∃ b cap cur, ι nm = some (b, cap) ∧ (C.own b ∧ cap = 0) ∧ w.heap[b]? = some (.cells cur T (0, 0)) ∧ RepAs (okOf C.F σ.h ι w) ι w true c cur.toList := by
  subst hg; exact S.ent nm _ h

theorem SimI.arr {ι : Nat → Option (Nat × Nat)} {a : Act} {w : World} (S : SimI C σ ι a w) {nm T n : Nat} {l : List (List D)} {g' : Bool} (h : geth σ.h nm = some (g', .arr T n l)) (hg : g' = true) (hl : 0 < l.length) :
    ∃ b cap cur, ι nm = some (b, cap) ∧ C.own b ∧ w.heap[b]? = some (.cells cur T (0, 0)) ∧ cur.size = cap * n ∧ l.length ≤ cap ∧ (cap ≤ maxLen ∧ l.length ≤ 281474976710656) ∧ RepDss (okOf C.F σ.h ι w) w n l (cur.toList.take (l.length * n)) := by
  subst hg
  rcases S.ent nm _ h with ⟨_, rfl⟩ | h
  · simp at hl
  · exact h

theorem snd_load {T : Nat} {x : Operand} {out : Out} (ho : o.op = .load T x) (h : vLoad C.P T g σ.h (opnd σ.e x) = some out) : Snd C o g σ out := by
  unfold vLoad at h
  split at h
  · cases h
  · rename_i sz ag ht
    split at h
    · rename_i nm off hx
      split at h
      · rename_i g' T' c hh
        split at h
        · rename_i r hr
          simp only [Option.some.injEq] at h; subst h
          refine Snd.pure fun ι a w S hg hs => ?_
          have ex := S.sopnd hg x hs.1
          rw [hx] at ex
          simp only [RepA] at ex
          obtain ⟨b, cc, hi, ex⟩ := ex
          obtain ⟨b', cap, cur, h1, h2, h3, h4⟩ := S.box hh (hs.2 hg)
          rw [hi] at h1; simp only [Option.some.injEq, Prod.mk.injEq] at h1
          obtain ⟨rfl, rfl⟩ := h1
          obtain ⟨v, hv, hrep⟩ := rdA_load (b := b) (o := off) ht (RepAs_drop off h4) (cellsAt_block h3) hr
          exact ⟨v, by simp [execOp, ho, ex, Instr.loadAt, Instr.sureAddr, hv], trivial, hrep⟩
        · cases h
      · cases h
    · rename_i l hx
      split at h
      · rename_i r hr
        simp only [Option.some.injEq] at h; subst h
        refine Snd.pure fun ι a w S hg hs => ?_
        have ex := S.sopnd hg x hs
        rw [hx] at ex
        simp only [RepA] at ex
        obtain ⟨b, off, vs, ex, hb, hrs, hc⟩ := ex
        obtain ⟨v, hv, hrep⟩ := rdD_load (ι := ι) ht hrs hc hr
        exact ⟨v, by simp [execOp, ho, ex, Instr.loadAt, Instr.sureAddr, hv], trivial, hrep⟩
      · cases h
    · rename_i nm k f n hx
      split at h
      · rename_i g' T' n' l hh
        split at h
        · rename_i r hr
          cases hn : n == n'
          · simp [hn] at h
          · simp only [hn, cond_true, Option.some.injEq] at h; subst h
            simp only [beq_iff_eq] at hn; subst hn
            refine Snd.pure fun ι a w S hg hs => ?_
            obtain ⟨p1, p2, hk⟩ := hs
            have ex := S.sopnd hg x p1
            rw [hx] at ex
            simp only [RepA] at ex
            obtain ⟨b, cc, hi, ex⟩ := ex
            obtain ⟨b', cap, cur, h1, h2, h3, h4, h5, h6, h7⟩ := S.arr hh (p2 hg) (by omega)
            rw [hi] at h1; simp only [Option.some.injEq, Prod.mk.injEq] at h1
            obtain ⟨rfl, rfl⟩ := h1
            obtain ⟨q1, q2⟩ := RepDss_at k h7 (elt_some (P := C.P) (T := T') hk)
            have hc : cellsAt w b (k * n) (((cur.toList.take (l.length * n)).drop (k * n)).take n) := by
              have := cellsAt_take (k := n) (cellsAt_drop (k := k * n) (cellsAt_take (k := l.length * n) (by simpa using cellsAt_block (o := 0) h3)))
              simpa using this
            obtain ⟨v, hv, hrep⟩ := rdD_load (ι := ι) ht (RepDs_drop f q1) (cellsAt_drop (k := f) hc) hr
            exact ⟨v, by simp [execOp, ho, ex, Instr.loadAt, Instr.sureAddr, hv], trivial, hrep⟩
        · cases h
      · cases h
    · rename_i l hx
      split at h
      · rename_i r hr
        simp only [Option.some.injEq] at h; subst h
        refine Snd.pure fun ι a w S hg hs => ?_
        have ex := S.sopnd hg x hs
        rw [hx] at ex
        simp only [RepA, RepD] at ex
        obtain ⟨b, off, vs, ex, hb, hrs, hc⟩ := ex
        obtain ⟨v, hv, hrep⟩ := rdD_load (ι := ι) ht hrs hc hr
        exact ⟨v, by simp [execOp, ho, ex, Instr.loadAt, Instr.sureAddr, hv], trivial, hrep⟩
      · cases h
    · cases h

theorem snd_fld {T : Nat} {x : Operand} {f : Nat} {out : Out} (ho : o.op = .fieldAddr T x f) (h : vFld C.P T g (opnd σ.e x) f = some out) : Snd C o g σ out := by
  unfold vFld at h
  split at h
  · cases h
  · rename_i off t hf
    cases hz : szOf C.P t == 0
    · simp only [hz, cond_false] at h
      have hu : ∃ fs fl, C.P.underlying T = some (.struct fs) ∧ fs[f]? = some fl ∧ fl.offset = off ∧ fl.type = t := by
        unfold fldOf at hf
        split at hf
        · rename_i fs hu
          simp only [Option.map_eq_some_iff, Prod.mk.injEq] at hf
          obtain ⟨fl, h1, h2, h3⟩ := hf
          exact ⟨fs, fl, hu, h1, h2, h3⟩
        · cases hf
      obtain ⟨fs, fl, hu, hfl, rfl, rfl⟩ := hu
      have hsz : ∃ s, (∀ w, (sizeOf fl.type).run C.P w = .ok s w) ∧ s ≠ 0 := by
        unfold szOf at hz
        cases hi : C.P.info? fl.type with
        | none => simp [hi] at hz
        | some i => exact ⟨i.size, fun w => by simp [sizeOf, typeInfo, hi], by simpa [hi] using hz⟩
      obtain ⟨s, hs1, hs2⟩ := hsz
      split at h
      · rename_i nm oo hx
        simp only [Option.some.injEq] at h; subst h
        refine Snd.pure fun ι a w S hg hs => ?_
        have ex := S.sopnd hg x hs
        rw [hx] at ex
        simp only [RepA] at ex
        obtain ⟨b, cc, hi, ex⟩ := ex
        exact ⟨.pointer (some ⟨b, oo + fl.offset, none⟩), by simp [execOp, ho, ex, Instr.fieldAt, run_underlying hu, hfl, Instr.sureAddr, fieldPlace, hs1, hs2, addr_add], trivial, by simp only [RepA]; exact ⟨b, cc, hi, rfl⟩⟩
      · rename_i nm k f n hx
        simp only [Option.some.injEq] at h; subst h
        refine Snd.pure fun ι a w S hg hs => ?_
        have ex := S.sopnd hg x hs
        rw [hx] at ex
        simp only [RepA] at ex
        obtain ⟨b, cc, hi, ex⟩ := ex
        exact ⟨.pointer (some ⟨b, k * n + (f + fl.offset), none⟩), by simp [execOp, ho, ex, Instr.fieldAt, run_underlying hu, hfl, Instr.sureAddr, fieldPlace, hs1, hs2, addr_add, Nat.add_assoc], trivial, by simp only [RepA]; exact ⟨b, cc, hi, rfl⟩⟩
      · rename_i l hx
        simp only [Option.some.injEq] at h; subst h
        refine Snd.pure fun ι a w S hg hs => ?_
        have ex := S.sopnd hg x hs
        rw [hx] at ex
        simp only [RepA] at ex
        obtain ⟨b, oo, vs, ex, hb, hrs, hc⟩ := ex
        exact ⟨.pointer (some ⟨b, oo + fl.offset, none⟩), by simp [execOp, ho, ex, Instr.fieldAt, run_underlying hu, hfl, Instr.sureAddr, fieldPlace, hs1, hs2, addr_add], trivial, by
          simp only [RepA]; exact ⟨b, _, _, rfl, hb, RepDs_drop _ hrs, cellsAt_drop hc⟩⟩
      · rename_i l hx
        simp only [Option.some.injEq] at h; subst h
        refine Snd.pure fun ι a w S hg hs => ?_
        have ex := S.sopnd hg x hs
        rw [hx] at ex
        simp only [RepA, RepD] at ex
        obtain ⟨b, oo, vs, ex, hb, hrs, hc⟩ := ex
        exact ⟨.pointer (some ⟨b, oo + fl.offset, none⟩), by simp [execOp, ho, ex, Instr.fieldAt, run_underlying hu, hfl, Instr.sureAddr, fieldPlace, hs1, hs2, addr_add], trivial, by
          simp only [RepA]; exact ⟨b, _, _, rfl, hb, RepDs_drop _ hrs, cellsAt_drop hc⟩⟩
      · cases h
    · simp [hz] at h

theorem elOf_some {P : Program} {T e : Nat} (h : elOf P T = some e) : P.underlying T = some (.slice e) := by
  unfold elOf at h; split at h <;> simp_all
theorem arOf_some {P : Program} {T n e : Nat} (h : arOf P T = some (n, e)) : P.underlying T = some (.array n e) := by
  unfold arOf at h; split at h <;> simp_all

theorem run_sizeOf {P : Program} {w : World} {e n : Nat} (h : (szOf P e == n && (P.info? e).isSome) = true) : (sizeOf e).run P w = .ok n w := by
  simp only [Bool.and_eq_true, beq_iff_eq] at h
  obtain ⟨i, hi⟩ := Option.isSome_iff_exists.1 h.2
  simp only [szOf, hi, Option.map_some, Option.getD_some] at h
  simp [sizeOf, typeInfo, hi, h.1]

theorem snd_idx {T : Nat} {x y : Operand} {out : Out} (ho : o.op = .indexAddr T x y) (h : vIdx C.P T g (opnd σ.e x) (opnd σ.e y) = some out) : Snd C o g σ out := by
  unfold vIdx at h
  split at h
  · cases h
  · rename_i k i hy
    split at h
    · rename_i nm oo m n hx
      split at h
      · rename_i e he
        cases hz : (szOf C.P e == n && (C.P.info? e).isSome)
        · simp [hz] at h
        · simp only [hz, cond_true, Option.some.injEq] at h; subst h
          refine Snd.pure fun ι a w S hg hs => ?_
          obtain ⟨p1, p2, h0, h1⟩ := hs
          have ex := S.sopnd hg x p1
          have ey := isI_rep (S.sopnd hg y p2) hy
          rw [hx] at ex
          simp only [RepA] at ex
          rcases ex with ⟨_, _, _, rfl⟩ | ⟨b, c, hi, ex, hle⟩
          · omega
          · have hu := elOf_some he
            have hs := run_sizeOf (w := w) hz
            refine ⟨.pointer (some ⟨b, (oo + i.toNat) * n + 0, none⟩), ?_, trivial, by simp only [RepA]; exact ⟨b, c, hi, rfl⟩⟩
            simp [execOp, ho, ex, ey, Instr.indexAt, run_underlying hu, asIntOf, h0, h1, hs, addr_add, Nat.add_mul]
      · cases h
    · rename_i n l hx
      split at h
      · rename_i e he
        cases hz : (szOf C.P e == n && (C.P.info? e).isSome)
        · simp [hz] at h
        · simp only [hz, cond_true, Option.some.injEq] at h; subst h
          refine Snd.pure fun ι a w S hg hs => ?_
          obtain ⟨p1, p2, h0, h1⟩ := hs
          have ex := S.sopnd hg x p1
          have ey := isI_rep (S.sopnd hg y p2) hy
          rw [hx] at ex
          simp only [RepA, RepD] at ex
          obtain ⟨hml, ex⟩ := ex
          rcases ex with ⟨rfl, _⟩ | ⟨b, oo, cap, vs, ex, _, hb, hrs, hc⟩
          · simp at h1; omega
          · have hu := elOf_some he
            have hs := run_sizeOf (w := w) hz
            have hk : i.toNat < l.length := by omega
            obtain ⟨q1, q2⟩ := RepDss_at i.toNat hrs (elt_some (P := C.P) (T := e) hk)
            refine ⟨.pointer (some ⟨b, oo + i.toNat * n, none⟩), ?_, trivial, ?_⟩
            · simp [execOp, ho, ex, ey, Instr.indexAt, run_underlying hu, asIntOf, h0, h1, hs, addr_add]
            · simp only [RepA]
              exact ⟨b, _, _, rfl, hb, q1, cellsAt_take (cellsAt_drop hc)⟩
      · cases h
    · rename_i nm oo hx
      split at h
      · rename_i len e he
        cases hz : (C.P.info? e).isSome
        · simp [hz] at h
        · simp only [hz, cond_true, Option.some.injEq] at h; subst h
          refine Snd.pure fun ι a w S hg hs => ?_
          obtain ⟨p1, p2, h0, h1⟩ := hs
          have ex := S.sopnd hg x p1
          have ey := isI_rep (S.sopnd hg y p2) hy
          rw [hx] at ex
          simp only [RepA] at ex
          obtain ⟨b, c, hi, ex⟩ := ex
          have hu := arOf_some he
          have hs := run_sizeOf (P := C.P) (e := e) (n := szOf C.P e) (w := w) (by simp [hz])
          refine ⟨.pointer (some ⟨b, oo + i.toNat * szOf C.P e, none⟩), ?_, trivial, by simp only [RepA]; exact ⟨b, c, hi, rfl⟩⟩
          simp [execOp, ho, ex, ey, Instr.indexAt, run_underlying hu, asIntOf, Instr.sureAddr, h0, h1, hs, addr_add]
      · cases h
    · cases h

theorem cut_take {l : List D} : ∀ {n o : Nat}, o + n ≤ l.length → cut l o n = (l.drop o).take n
  | 0, o, _ => by simp [cut]
  | n + 1, o, h => by
    have ho : o < l.length := by omega
    rw [cut, cut_take (by omega), List.drop_eq_getElem_cons ho, List.take_succ_cons, List.getD_eq_getElem?_getD, List.getElem?_eq_getElem ho]
    rfl

theorem snd_nil {x : Operand} {out : Out} (ho : o.op = .nilCheck x) (h : vNil g (opnd σ.e x) = some out) : Snd C o g σ out := by
  unfold vNil at h
  split at h
  · rename_i nm oo hx
    simp only [Option.some.injEq] at h; subst h
    refine Snd.pure fun ι a w S hg hs => ?_
    have ex := S.sopnd hg x hs
    rw [hx] at ex
    have er := ex
    simp only [RepA] at ex
    obtain ⟨b, c, hi, ex⟩ := ex
    exact ⟨_, by simp [execOp, ho, ex], trivial, ex ▸ er⟩
  · rename_i l hx
    simp only [Option.some.injEq] at h; subst h
    refine Snd.pure fun ι a w S hg hs => ?_
    have ex := S.sopnd hg x hs
    rw [hx] at ex
    have er := ex
    simp only [RepA, RepD] at ex
    obtain ⟨b, oo, vs, ex, _⟩ := ex
    exact ⟨_, by simp [execOp, ho, ex], trivial, ex ▸ er⟩
  · rename_i l hx
    simp only [Option.some.injEq] at h; subst h
    refine Snd.pure fun ι a w S hg hs => ?_
    have ex := S.sopnd hg x hs
    rw [hx] at ex
    have er := ex
    simp only [RepA] at ex
    obtain ⟨b, oo, vs, ex, _⟩ := ex
    exact ⟨_, by simp [execOp, ho, ex], trivial, ex ▸ er⟩
  · cases h

theorem snd_fieldV {T : Nat} {x : Operand} {f : Nat} {out : Out} (ho : o.op = .field T x f) (h : vFieldV C.P T g (opnd σ.e x) f = some out) : Snd C o g σ out := by
  unfold vFieldV at h
  split at h
  · rename_i off t ds hf hx
    split at h
    · rename_i sz ag ht
      cases hz : (decide (off + sz ≤ ds.length) && (ag || sz == 1))
      · simp [hz] at h
      · simp only [hz, cond_true, Option.some.injEq] at h; subst h
        simp only [Bool.and_eq_true, decide_eq_true_eq, Bool.or_eq_true, beq_iff_eq] at hz
        have hu : ∃ fs fl, C.P.underlying T = some (.struct fs) ∧ fs[f]? = some fl ∧ fl.offset = off ∧ fl.type = t := by
          unfold fldOf at hf
          split at hf
          · rename_i fs hu
            simp only [Option.map_eq_some_iff, Prod.mk.injEq] at hf
            obtain ⟨fl, h1, h2, h3⟩ := hf
            exact ⟨fs, fl, hu, h1, h2, h3⟩
          · cases hf
        obtain ⟨fs, fl, hu, hfl, rfl, rfl⟩ := hu
        refine Snd.pure fun ι a w S hg hs => ?_
        have ex := S.sopnd hg x hs
        rw [hx] at ex
        simp only [RepA, RepD] at ex
        obtain ⟨vs, ex, hr⟩ := ex
        have hlen := RepDs_length hr
        have hsz := ty_size (w := w) ht
        cases ag with
        | true =>
          have ht := (ty_ag (w := w) ht).1
          refine ⟨.agg (vs.toArray.extract fl.offset (fl.offset + sz)), ?_, trivial, ?_⟩
          · simp [execOp, ho, ex, Instr.field, asAgg, run_underlying hu, hfl, hsz, part, ht]
          · simp only [cond_true, RepA, RepD]
            refine ⟨(vs.drop fl.offset).take sz, by simp [List.take_drop, Nat.add_comm], ?_⟩
            rw [cut_take (by omega)]
            exact RepDs_take _ (RepDs_drop _ hr)
        | false =>
          have h1' : sz = 1 := by simpa using hz.2
          subst h1'
          have ht := (ty_one (w := w) ht).1
          have hd : ds[fl.offset]? = some (ds.getD fl.offset (.i 0)) := by
            have : fl.offset < ds.length := by omega
            simp only [List.getD_eq_getElem?_getD, List.getElem?_eq_getElem this, Option.getD_some]
          obtain ⟨v, hv, hrv, _⟩ := RepDs_get _ hr hd
          refine ⟨v, ?_, trivial, ?_⟩
          · simp [execOp, ho, ex, Instr.field, asAgg, run_underlying hu, hfl, hsz, part, ht, hv]
          · simpa only [cond_false, RepA] using hrv
    · cases h
  · cases h

theorem snd_index {T : Nat} {x y : Operand} {out : Out} (ho : o.op = .index T x y) (h : vIndex C.P T g (opnd σ.e x) (opnd σ.e y) = some out) : Snd C o g σ out := by
  unfold vIndex at h
  split at h
  · rename_i k i ds len e hy hx he
    split at h
    · rename_i sz ag ht
      cases hz : (ds.length == len * sz && (ag || sz == 1))
      · simp [hz] at h
      · simp only [hz, cond_true, Option.some.injEq] at h; subst h
        refine Snd.pure fun ι a w S hg hs => ?_
        obtain ⟨p1, p2, h0, h1⟩ := hs
        simp only [Bool.and_eq_true, beq_iff_eq, Bool.or_eq_true] at hz
        have ex := S.sopnd hg x p1
        have ey := isI_rep (S.sopnd hg y p2) hy
        rw [hx] at ex
        simp only [RepA, RepD] at ex
        obtain ⟨vs, ex, hr⟩ := ex
        have hu := arOf_some he
        have hi : i.toNat < len := by omega
        have hmul : (i.toNat + 1) * sz ≤ len * sz := Nat.mul_le_mul_right _ hi
        rw [Nat.add_mul] at hmul
        have hlen := RepDs_length hr
        have hsz := ty_size (w := w) ht
        cases ag with
        | true =>
          have ht := (ty_ag (w := w) ht).1
          refine ⟨.agg (vs.toArray.extract (i.toNat * sz) (i.toNat * sz + sz)), ?_, trivial, ?_⟩
          · simp [execOp, ho, ex, ey, Instr.index, run_underlying hu, asIntOf, h0, h1, hsz, part, ht]
          · simp only [cond_true, RepA, RepD]
            refine ⟨(vs.drop (i.toNat * sz)).take sz, by simp [List.take_drop, Nat.add_comm], ?_⟩
            rw [cut_take (by omega)]
            exact RepDs_take _ (RepDs_drop _ hr)
        | false =>
          have h1' : sz = 1 := by simpa using hz.2
          subst h1'
          have ht := (ty_one (w := w) ht).1
          have hd : ds[i.toNat * 1]? = some (ds.getD (i.toNat * 1) (.i 0)) := by
            have : i.toNat * 1 < ds.length := by omega
            simp only [List.getD_eq_getElem?_getD, List.getElem?_eq_getElem this, Option.getD_some]
          obtain ⟨v, hv, hrv, _⟩ := RepDs_get _ hr hd
          refine ⟨v, ?_, trivial, ?_⟩
          · simp only [Nat.mul_one] at hv
            simp [execOp, ho, ex, ey, Instr.index, run_underlying hu, asIntOf, h0, h1, hsz, part, ht, hv]
          · simpa only [cond_false, RepA] using hrv
    · cases h
  · cases h
end
end Go.Eng

