import Derived.Test.YtnbeigcjhpldmaaGreatEE
import Derived.ProofKit
import Derived.SizedLaws
set_option linter.unusedSimpArgs false
set_option linter.unusedVariables false
set_option linter.unusedSimpArgs false
set_option linter.unusedVariables false
namespace Go.Eng
open Go.RowKit

mutual
def renA (ρ : Nat → Nat) : AV → AV
  | .un => .un
  | .dat d => .dat d
  | .agg l => .agg (renAs ρ l)
  | .tup l => .tup (renAs ρ l)
  | .rp l => .rp l
  | .pt nm o => .pt (ρ nm) o
  | .ep nm k f n => .ep (ρ nm) k f n
  | .vw nm o m n => .vw (ρ nm) o m n
  | .gd g x => .gd g (renA ρ x)
  | .pin u x => .pin u (renA ρ x)
  | .cl f l => .cl f (renAs ρ l)
  | .mp nm => .mp (ρ nm)
def renAs (ρ : Nat → Nat) : List AV → List AV
  | [] => []
  | a :: l => renA ρ a :: renAs ρ l
end
def renE (ρ : Nat → Nat) : Ent → Ent
  | .box T c => .box T (renAs ρ c)
  | .arr T n l => .arr T n l
  | .mp n l => .mp n l
  | .it n l cur => .it n l cur
def renH (ρ : Nat → Nat) : Hp → Hp
  | [] => []
  | (k, some (g, x)) :: l => (ρ k, some (g, renE ρ x)) :: renH ρ l
  | (k, none) :: l => renH ρ l
def lkr : List (Nat × Nat) → Nat → Nat
  | [], k => k
  | (j, x) :: l, k => bif j == k then x else lkr l k
section
variable {ok : Nat → Prop} {ι : Nat → Option (Nat × Nat)} {w : World} {ρ : Nat → Nat}
mutual
theorem renA_rep : ∀ (a : AV) (v : Value), RepA ok ι w (renA ρ a) v ↔ RepA ok (fun k => ι (ρ k)) w a v
  | .un, v => by simp only [renA, RepA]
  | .dat d, v => by simp only [renA, RepA]
  | .agg l, v => by simp only [renA, RepA, renAs_rep true l]
  | .tup l, v => by simp only [renA, RepA, renAs_rep false l]
  | .rp l, v => by simp only [renA, RepA]
  | .pt nm o, v => by simp only [renA, RepA]
  | .ep nm k f n, v => by simp only [renA, RepA]
  | .vw nm o m n, v => by simp only [renA, RepA]
  | .gd g x, v => by simp only [renA, RepA, renA_rep x]
  | .pin u x, v => by simp only [renA, RepA, renA_rep x]
  | .cl f l, v => by simp only [renA, RepA, renAs_rep false l]
  | .mp nm, v => by simp only [renA, RepA]
theorem renAs_rep (one : Bool) : ∀ (l : List AV) (vs : List Value), RepAs ok ι w one (renAs ρ l) vs ↔ RepAs ok (fun k => ι (ρ k)) w one l vs
  | [], vs => by simp only [renAs, RepAs]
  | a :: l, vs => by simp only [renAs, RepAs, renA_rep a, renAs_rep one l]
end
theorem renE_ok {own : Nat → Prop} {nm : Nat} : ∀ (x : Ent), EntOk own ok ι w (ρ nm) (renE ρ x) ↔ EntOk own ok (fun k => ι (ρ k)) w nm x
  | .box T c => by simp only [renE, EntOk, renAs_rep]
  | .arr T n l => by simp only [renE, EntOk]
  | .mp n l => by simp only [renE, EntOk]
  | .it n l cur => by simp only [renE, EntOk]
end
mutual
def clA (L : List Nat) : AV → Bool
  | .agg l => clAs L l
  | .tup l => clAs L l
  | .pt nm _ => L.contains nm
  | .ep nm _ _ _ => L.contains nm
  | .vw nm _ _ _ => L.contains nm
  | .gd _ x => clA L x
  | .pin _ x => clA L x
  | .cl _ l => clAs L l
  | .mp nm => L.contains nm
  | _ => true
def clAs (L : List Nat) : List AV → Bool
  | [] => true
  | a :: l => clA L a && clAs L l
end
def clE (L : List Nat) : Ent → Bool
  | .box _ c => clAs L c
  | .arr .. => true
  | .mp .. => true
  | .it .. => true
def clH (L : List Nat) : Hp → Bool
  | [] => true
  | (k, some (g, x)) :: l => g && L.contains k && clE L x && clH L l
  | (_, none) :: _ => false
def namesH : Hp → List Nat
  | [] => []
  | (k, _) :: l => k :: namesH l
mutual
theorem clA_refs {L : List Nat} : ∀ {a : AV}, clA L a = true → ∀ nm, a.refs nm = true → nm ∈ L
  | .agg l, h, nm, hr => by simp only [clA] at h; simp only [AV.refs] at hr; exact clAs_refs h nm hr
  | .tup l, h, nm, hr => by simp only [clA] at h; simp only [AV.refs] at hr; exact clAs_refs h nm hr
  | .pt k _, h, nm, hr | .ep k _ _ _, h, nm, hr | .vw k _ _ _, h, nm, hr | .mp k, h, nm, hr => by
    simp only [clA] at h; simp only [AV.refs, beq_iff_eq] at hr; subst hr; simpa using h
  | .gd _ x, h, nm, hr => by simp only [clA] at h; simp only [AV.refs] at hr; exact clA_refs h nm hr
  | .pin _ x, h, nm, hr => by simp only [clA] at h; simp only [AV.refs] at hr; exact clA_refs h nm hr
  | .cl _ l, h, nm, hr => by simp only [clA] at h; simp only [AV.refs] at hr; exact clAs_refs h nm hr
  | .un, _, nm, hr | .dat _, _, nm, hr | .rp _, _, nm, hr => by simp [AV.refs] at hr
theorem clAs_refs {L : List Nat} : ∀ {l : List AV}, clAs L l = true → ∀ nm, AV.refsL nm l = true → nm ∈ L
  | [], h, nm, hr => by simp [AV.refsL] at hr
  | a :: l, h, nm, hr => by
    simp only [clAs, Bool.and_eq_true] at h
    simp only [AV.refsL, Bool.or_eq_true] at hr
    rcases hr with hr | hr
    · exact clA_refs h.1 nm hr
    · exact clAs_refs h.2 nm hr
end
theorem clE_refs {L : List Nat} {x : Ent} (h : clE L x = true) (nm : Nat) (hr : x.refs nm = true) : nm ∈ L := by
  cases x with
  | box T c => simp only [clE] at h; simp only [Ent.refs] at hr; exact clAs_refs h nm hr
  | arr T n l => simp [Ent.refs] at hr
  | mp n l => simp [Ent.refs] at hr
  | it n l cur => simp [Ent.refs] at hr
theorem clH_get {L : List Nat} : ∀ {h : Hp} {k : Nat} {p : Bool × Ent}, clH L h = true → geth h k = some p → k ∈ L ∧ clE L p.2 = true ∧ p.1 = true
  | [], k, p, _, hg => by simp [geth] at hg
  | (j, some (g, x)) :: l, k, p, hc, hg => by
    simp only [clH, Bool.and_eq_true] at hc
    simp only [geth] at hg
    cases hj : j == k
    · rw [hj, cond_false] at hg; exact clH_get hc.2 hg
    · rw [hj, cond_true] at hg
      simp only [Option.some.injEq] at hg; subst hg
      simp only [beq_iff_eq] at hj; subst hj
      exact ⟨by simpa using hc.1.1.2, hc.1.2, hc.1.1.1⟩
  | (j, none) :: l, k, p, hc, hg => by simp [clH] at hc
theorem renH_get {ρ : Nat → Nat} {L : List Nat} {H : Hp} {c : Nat} {p : Bool × Ent} : ∀ {h : Hp}, clH L h = true → (∀ i ∈ L, ∀ j ∈ L, ρ i = ρ j → i = j) → geth (renH ρ h ++ H) c = some p →
    (∃ k x, c = ρ k ∧ k ∈ L ∧ geth h k = some (true, x) ∧ p = (true, renE ρ x)) ∨ ((∀ k ∈ namesH h, ρ k ≠ c) ∧ geth H c = some p)
  | [], _, _, hg => .inr ⟨by simp [namesH], by simpa [renH] using hg⟩
  | (k, some (g, x)) :: l, hc, hi, hg => by
    simp only [clH, Bool.and_eq_true] at hc
    have hkL : k ∈ L := by simpa using hc.1.1.2
    simp only [renH, List.cons_append, geth] at hg
    cases hk : ρ k == c
    · rw [hk, cond_false] at hg
      have hne : ρ k ≠ c := by simpa using hk
      rcases renH_get hc.2 hi hg with ⟨k', x', e1, e2, e3, e4⟩ | ⟨e1, e2⟩
      · refine .inl ⟨k', x', e1, e2, ?_, e4⟩
        have : (k == k') = false := by
          simp only [beq_eq_false_iff_ne, ne_eq]
          rintro rfl; exact hne e1.symm
        simp only [geth, this, cond_false]; exact e3
      · refine .inr ⟨fun j hj => ?_, e2⟩
        simp only [namesH, List.mem_cons] at hj
        rcases hj with rfl | hj
        · exact hne
        · exact e1 j hj
    · rw [hk, cond_true] at hg
      simp only [Option.some.injEq] at hg; subst hg
      have e := hc.1.1.1
      subst e
      exact .inl ⟨k, x, by simpa using Eq.symm (by simpa using hk), hkL, by simp [geth], rfl⟩
  | (k, none) :: l, hc, _, _ => by simp [clH] at hc
def matchH (h : Hp) (R : List (Nat × Nat)) : Hp → Prop
  | [] => True
  | (k, some (g, x)) :: l => (match geth h (lkr R k) with
      | some (g', x') => g' = true ∧ x' = renE (lkr R) x
      | none => False) ∧ matchH h R l
  | (_, none) :: _ => False
theorem matchH_get {h : Hp} {R : List (Nat × Nat)} : ∀ {h0 : Hp}, matchH h R h0 → ∀ {k : Nat} {x : Ent}, geth h0 k = some (true, x) → geth h (lkr R k) = some (true, renE (lkr R) x) ∧ k ∈ namesH h0
  | [], _, k, x, hg => by simp [geth] at hg
  | (j, some (g, y)) :: l, hm, k, x, hg => by
    simp only [matchH] at hm
    simp only [geth] at hg
    cases hj : j == k
    · rw [hj, cond_false] at hg
      have := matchH_get hm.2 hg
      exact ⟨this.1, by simp [namesH, this.2]⟩
    · rw [hj, cond_true] at hg
      simp only [beq_iff_eq] at hj; subst hj
      simp only [Option.some.injEq, Prod.mk.injEq] at hg
      obtain ⟨rfl, rfl⟩ := hg
      have h1 := hm.1
      split at h1
      · rename_i g' x' e
        obtain ⟨rfl, rfl⟩ := h1
        exact ⟨e, by simp [namesH]⟩
      · exact h1.elim
  | (j, none) :: l, hm, k, x, hg => by simp [matchH] at hm
def newN (d : Nat) : Nat → List Nat → List (Nat × Nat)
  | _, [] => []
  | i, k :: l => (k, 10000 + 100 * d + i) :: newN d (i + 1) l
def drops (R : List (Nat × Nat)) : List Nat → Hp
  | [] => []
  | k :: l => (lkr R k, none) :: drops R l
def inL (A B : List Nat) : Bool := A.all fun k => B.contains k
def outL (A B : List Nat) : Bool := A.all fun k => !B.contains k
def freeL (A : List Nat) (h : Hp) : Bool := A.all fun k => (geth h k).isNone
def snds (l : List (Nat × Nat)) : List Nat := l.map fun p => p.2
def RRof (d : Nat) (Z : ZC) (R : List (Nat × Nat)) : List (Nat × Nat) := newN d 0 Z.news ++ R
def hpZ (d : Nat) (Z : ZC) (R : List (Nat × Nat)) (y : Z.β) (h : Hp) : Hp := renH (lkr (RRof d Z R)) (Z.h1 y) ++ (drops R (namesH Z.h0) ++ h)
def chkZ (d : Nat) (Z : ZC) (R : List (Nat × Nat)) (σ : St) : Bool :=
  noDup ((namesH Z.h0).map (lkr R)) && noDup (namesH Z.h0) && freshR σ (10000 + 100 * d) Z.news.length && decide (Z.news.length ≤ 100) && noDup (Z.pins ++ Z.news) && inL Z.pins (namesH Z.h0) && outL (snds (newN d 0 Z.news)) ((namesH Z.h0).map (lkr R)) && freeL (snds (newN d 0 Z.news)) σ.h
def sideZ (P : Program) (f : FuncId) (d : Nat) (Z : ZC) (R : List (Nat × Nat)) (σ : St) (as : List AV) : Prop :=
  pkl true as ∧ as.map sp = renAs (lkr R) Z.as ∧ matchH σ.h R Z.h0 ∧ (∀ y, clH (Z.pins ++ Z.news) (Z.h1 y) = true ∧ clA (Z.pins ++ Z.news) (Z.r y) = true) ∧ FnZ P f Z
end Go.Eng

set_option linter.unusedSimpArgs false
set_option linter.unusedVariables false
namespace Go.Eng
open Go.RowKit

def bkN : List (Nat × Nat) → Nat → Option Nat
  | [], _ => none
  | (k, c) :: l, x => bif c == x then some k else bkN l x
theorem bkN_none : ∀ {l : List (Nat × Nat)} {x : Nat}, x ∉ snds l → bkN l x = none
  | [], x, _ => rfl
  | (k, c) :: l, x, h => by
    simp only [snds, List.map_cons, List.mem_cons, not_or] at h
    have : (c == x) = false := by simpa using fun e : c = x => h.1 e.symm
    simp only [bkN, this, cond_false]
    exact bkN_none h.2
theorem bkN_mem : ∀ {l : List (Nat × Nat)} {x k : Nat}, bkN l x = some k → x ∈ snds l
  | [], x, k, h => by simp [bkN] at h
  | (j, c) :: l, x, k, h => by
    simp only [bkN] at h
    cases hc : c == x
    · rw [hc, cond_false] at h
      simp only [snds, List.map_cons, List.mem_cons]; exact .inr (bkN_mem h)
    · simp only [beq_iff_eq] at hc
      simp [snds, hc]
theorem newN_mem {d : Nat} : ∀ {l : List Nat} {i c : Nat}, c ∈ snds (newN d i l) → 10000 + 100 * d + i ≤ c ∧ c < 10000 + 100 * d + i + l.length
  | [], i, c, h => by simp [snds, newN] at h
  | k :: l, i, c, h => by
    simp only [newN, snds, List.map_cons, List.mem_cons] at h
    rcases h with rfl | h
    · simp only [List.length_cons]; omega
    · have := newN_mem (d := d) (l := l) (i := i + 1) h
      simp only [List.length_cons]; omega
theorem newN_lk {d : Nat} {R : List (Nat × Nat)} : ∀ {l : List Nat} {i k : Nat}, k ∈ l → noDup l = true → bkN (newN d i l) (lkr (newN d i l ++ R) k) = some k
  | [], i, k, h, _ => by simp at h
  | j :: l, i, k, h, hn => by
    simp only [noDup, Bool.and_eq_true, Bool.not_eq_true'] at hn
    simp only [newN, List.cons_append, lkr]
    cases hj : j == k
    · simp only [cond_false]
      have hk : k ∈ l := by
        simp only [List.mem_cons] at h
        rcases h with rfl | h
        · simp at hj
        · exact h
      have ih := newN_lk (d := d) (R := R) (i := i + 1) hk hn.2
      have hm := newN_mem (bkN_mem ih)
      have : (10000 + 100 * d + i == lkr (newN d (i + 1) l ++ R) k) = false := by simp; omega
      simp only [bkN, this, cond_false]; exact ih
    · simp only [cond_true, bkN, beq_self_eq_true, cond_true]
      simp only [beq_iff_eq] at hj; rw [hj]
theorem newN_other {d : Nat} {R : List (Nat × Nat)} : ∀ {l : List Nat} {i k : Nat}, k ∉ l → lkr (newN d i l ++ R) k = lkr R k
  | [], i, k, _ => rfl
  | j :: l, i, k, h => by
    simp only [List.mem_cons, not_or] at h
    have : (j == k) = false := by simpa using fun e : j = k => h.1 e.symm
    simp only [newN, List.cons_append, lkr, this, cond_false]
    exact newN_other h.2
theorem noDup_append : ∀ {a b : List Nat}, noDup (a ++ b) = true → noDup b = true ∧ ∀ k ∈ a, k ∉ b
  | [], b, h => ⟨h, by simp⟩
  | k :: a, b, h => by
    simp only [List.cons_append, noDup, Bool.and_eq_true, Bool.not_eq_true'] at h
    obtain ⟨h1, h2⟩ := noDup_append h.2
    refine ⟨h1, fun j hj => ?_⟩
    simp only [List.mem_cons] at hj
    rcases hj with rfl | hj
    · intro hb
      have : (a ++ b).contains j = true := by simp [hb]
      rw [h.1] at this; cases this
    · exact h2 j hj
theorem noDup_mapInj {ρ : Nat → Nat} : ∀ {l : List Nat}, noDup (l.map ρ) = true → ∀ i ∈ l, ∀ j ∈ l, ρ i = ρ j → i = j
  | [], _, i, hi, _, _, _ => by simp at hi
  | k :: l, h, i, hi, j, hj, e => by
    simp only [List.map_cons, noDup, Bool.and_eq_true, Bool.not_eq_true'] at h
    have hk : ∀ x ∈ l, ρ k ≠ ρ x := by
      intro x hx he
      have : (l.map ρ).contains (ρ k) = true := by
        rw [List.contains_eq_mem, decide_eq_true_eq, he]; exact List.mem_map_of_mem hx
      rw [h.1] at this; cases this
    simp only [List.mem_cons] at hi hj
    rcases hi with rfl | hi <;> rcases hj with rfl | hj
    · rfl
    · exact absurd e (hk j hj)
    · exact absurd e.symm (hk i hi)
    · exact noDup_mapInj h.2 i hi j hj e
theorem drops_get {R : List (Nat × Nat)} {H : Hp} {c : Nat} {p : Bool × Ent} : ∀ {l : List Nat}, geth (drops R l ++ H) c = some p → (∀ k ∈ l, lkr R k ≠ c) ∧ geth H c = some p
  | [], h => ⟨by simp, h⟩
  | k :: l, h => by
    simp only [drops, List.cons_append, geth] at h
    cases hk : lkr R k == c
    · rw [hk, cond_false] at h
      obtain ⟨h1, h2⟩ := drops_get h
      refine ⟨fun j hj => ?_, h2⟩
      simp only [List.mem_cons] at hj
      rcases hj with rfl | hj
      · simpa using hk
      · exact h1 j hj
    · rw [hk, cond_true] at h; cases h
theorem EntOk.blk {own ok : Nat → Prop} {ι : Nat → Option (Nat × Nat)} {w : World} {nm b c : Nat} {x : Ent} (h : EntOk own ok ι w nm x) (hi : ι nm = some (b, c)) : own b := by
  cases x with
  | box T l => obtain ⟨b', cap, cur, h1, h2, _⟩ := h; rw [hi] at h1; simp at h1; exact h1.1 ▸ h2.1
  | arr T n l =>
    rcases h with ⟨h1, _⟩ | ⟨b', cap, cur, h1, h2, _⟩
    · rw [hi] at h1; cases h1
    · rw [hi] at h1; simp at h1; exact h1.1 ▸ h2
  | mp n l => obtain ⟨b', es, c', h1, h2, _⟩ := h; rw [hi] at h1; simp at h1; exact h1.1 ▸ h2
  | it n l cur => obtain ⟨b', m, es, c', sn, h1, h2, _⟩ := h; rw [hi] at h1; simp at h1; exact h1.1 ▸ h2
theorem EntOk.ownTo {own own' ok : Nat → Prop} {ι : Nat → Option (Nat × Nat)} {w : World} {nm : Nat} {x : Ent} (ho : ∀ b, b < w.heap.size → own b → own' b) (h : EntOk own ok ι w nm x) : EntOk own' ok ι w nm x := by
  cases x with
  | box T l => obtain ⟨b', cap, cur, h1, h2, h3, h4⟩ := h; exact ⟨b', cap, cur, h1, ⟨ho _ (Array.getElem?_eq_some_iff.1 h3).1 h2.1, h2.2⟩, h3, h4⟩
  | arr T n l =>
    rcases h with h | ⟨b', cap, cur, h1, h2, h3, h4⟩
    · exact .inl h
    · exact .inr ⟨b', cap, cur, h1, ho _ (Array.getElem?_eq_some_iff.1 h3).1 h2, h3, h4⟩
  | mp n l => obtain ⟨b', es, c', h1, h2, h3, h4⟩ := h; exact ⟨b', es, c', h1, ho _ (Array.getElem?_eq_some_iff.1 h3).1 h2, h3, h4⟩
  | it n l cur => obtain ⟨b', m, es, c', sn, h1, h2, h3, h4⟩ := h; exact ⟨b', m, es, c', sn, h1, ho _ (Array.getElem?_eq_some_iff.1 h3).1 h2, h3, h4⟩
theorem RepAs_of {ok : Nat → Prop} {ι : Nat → Option (Nat × Nat)} {w : World} : ∀ {l : List AV} {vs : List Value}, vs.length = l.length → (∀ (k : Nat) (A : AV) (v : Value), l[k]? = some A → vs[k]? = some v → RepA ok ι w A v) → RepAs ok ι w false l vs
  | [], vs, hl, _ => by simp only [RepAs]; simpa using hl
  | a :: l, [], hl, _ => by simp at hl
  | a :: l, v :: vs, hl, h => by
    simp only [RepAs]
    exact ⟨v, vs, rfl, h 0 a v rfl rfl, by simp, RepAs_of (by simpa using hl) fun k A u hA hu => h (k + 1) A u (by simpa using hA) (by simpa using hu)⟩
section
variable {C : Ctx} {σ : St} {o : Oper} {g : Bool}
theorem snd_callZ {f : Nat} {args : Array Operand} {ts : Array TypeId} {d : Nat} {Z : ZC} {R : List (Nat × Nat)} (ho : o.op = .call ⟨.value (.func f), args, ts⟩) (hf : isFn C.P f = true) (hc : chkZ d Z R σ = true)
    (hs : sideZ C.P f d Z R σ (args.toList.map (opnd σ.e))) : ∀ ι a w, SimI C σ ι a w → ∀ (K : Act → World → Prop) (Q : Exit → Act → World → Prop),
      (∀ y, Z.q y → ∀ v w' ι', SimI C ⟨σ.e, hpZ d Z R y σ.h⟩ ι' a w' → RepA (okOf C.F (hpZ d Z R y σ.h) ι' w') ι' w' (renA (lkr (RRof d Z R)) (Z.r y)) v → K (a.put o.dst v) w') → o.wp C.P a w K Q := by
  intro ι a w S K Q hK
  obtain ⟨s1, s2, s3, s4, s5⟩ := hs
  simp only [chkZ, Bool.and_eq_true] at hc
  obtain ⟨⟨⟨⟨⟨⟨⟨c1, c0⟩, c2⟩, c3⟩, c4⟩, c5⟩, c6⟩, c7⟩ := hc
  let ιc : Nat → Option (Nat × Nat) := fun k => ι (lkr R k)
  let G : Nat → Prop := fun b => C.F b ∨ ∃ c x cc, geth σ.h c = some (true, x) ∧ (∀ k ∈ namesH Z.h0, lkr R k ≠ c) ∧ ι c = some (b, cc)
  have hX : ∀ b, X0 Z.h0 ιc b → ∃ c x cc, geth σ.h c = some (true, x) ∧ (∃ k ∈ namesH Z.h0, lkr R k = c) ∧ ι c = some (b, cc) := by
    rintro b ⟨k, x, c, h1, h2⟩
    have := matchH_get s3 h1
    exact ⟨_, _, c, this.1, ⟨k, this.2, rfl⟩, h2⟩
  have hXown : ∀ b, X0 Z.h0 ιc b → C.own b := fun b h => by
    obtain ⟨c, x, cc, h1, _, h3⟩ := hX b h
    exact own_of_live S h1 h3
  have hXold : ∀ c x b cc, geth σ.h c = some (true, x) → (∀ k ∈ namesH Z.h0, lkr R k ≠ c) → ι c = some (b, cc) → ¬ X0 Z.h0 ιc b := by
    intro c x b cc h1 h2 h3 h4
    obtain ⟨c', x', cc', k1, ⟨k, hk, rfl⟩, k3⟩ := hX b h4
    exact S.inj c (lkr R k) x x' b cc cc' h1 k1 (fun e => h2 k hk e.symm) h3 k3
  have hok : ∀ b, okOf C.F σ.h ι w b → okOf (FZ w (X0 Z.h0 ιc) G) Z.h0 ιc w b := fun b hb =>
    ⟨hb.1, fun k x c hx hi => hb.2.1 (lkr R k) _ c (matchH_get s3 hx).1 hi, fun hF => hF.1.elim hb.2.2 fun ⟨c, x, cc, h1, _, h3⟩ => hb.2.1 c x cc h1 h3⟩
  unfold Oper.wp
  rw [run_enter ho hf a w]
  have hargs : RepAs (okOf (FZ w (X0 Z.h0 ιc) G) Z.h0 ιc w) ιc w false Z.as (args.map a.eval).toList := by
    have h1 : RepAs (okOf C.F σ.h ι w) ι w false ((args.toList.map (opnd σ.e)).map sp) (args.map a.eval).toList := RepAs_of (by simp) (by
      have := pkl_rep S rfl args.toList s1
      simpa using this)
    rw [s2, renAs_rep] at h1
    exact RepAs.tr hok (fun _ _ => rfl) false _ _ (fun _ _ => rfl) h1
  refine (s5 w (args.map a.eval) ιc G (fun k x hx => ?_) (fun k k' x x' b c c' hx hx' hne hi hi' => ?_) hargs).mono ?_
  · have E := S.ent _ _ (matchH_get s3 hx).1
    rw [renE_ok] at E
    refine EntOk.ownTo (own := C.own) (fun b hb _ => hb) ?_
    exact E.tr hok (fun _ _ => rfl) (fun _ _ _ => rfl) rfl (fun _ _ => rfl)
  · have m1 := matchH_get s3 hx; have m2 := matchH_get s3 hx'
    exact S.inj (lkr R k) (lkr R k') _ _ b c c' m1.1 m2.1 (fun e => hne (noDup_mapInj c1 k m1.2 k' m2.2 e)) hi hi'
  rintro e w' ⟨v, y, ι', rfl, hq, ⟨w1, w2, w3, w4⟩, hsame, hpin, hent, hinj, hr⟩
  obtain ⟨y1, y2⟩ := s4 y
  obtain ⟨d1, d2⟩ := noDup_append c4
  simp only [inL, outL, freeL, List.all_eq_true, Bool.not_eq_true', List.contains_eq_mem, decide_eq_true_eq, decide_eq_false_iff_not, Option.isNone_iff_eq_none] at c5 c6 c7
  let NN := newN d 0 Z.news
  let ren : Nat → Nat := lkr (RRof d Z R)
  let ι2 : Nat → Option (Nat × Nat) := fun c => match bkN NN c with
    | some k => ι' k
    | none => ι c
  have hnew : ∀ k ∈ Z.news, bkN NN (ren k) = some k := fun k hk => newN_lk hk d1
  have hpinR : ∀ k ∈ Z.pins, ren k = lkr R k := fun k hk => newN_other (d2 k hk)
  have hpinN : ∀ k ∈ Z.pins, bkN NN (ren k) = none := fun k hk => bkN_none fun hm => by
    refine c6 _ hm ?_
    rw [hpinR k hk]; exact List.mem_map_of_mem (c5 k hk)
  have hι : ∀ k ∈ Z.pins ++ Z.news, ι2 (ren k) = ι' k := by
    intro k hk
    rcases List.mem_append.1 hk with hk | hk
    · simp only [ι2, hpinN k hk]
      rw [hpinR k hk]; exact (hpin k hk).symm
    · simp only [ι2, hnew k hk]
  have hinjL : ∀ i ∈ Z.pins ++ Z.news, ∀ j ∈ Z.pins ++ Z.news, ren i = ren j → i = j := by
    intro i hi j hj e
    rcases List.mem_append.1 hi with hi | hi <;> rcases List.mem_append.1 hj with hj | hj
    · rw [hpinR i hi, hpinR j hj] at e
      exact noDup_mapInj c1 i (c5 i hi) j (c5 j hj) e
    · have := hnew j hj; rw [← e, hpinN i hi] at this; cases this
    · have := hnew i hi; rw [e, hpinN j hj] at this; cases this
    · have h1 := hnew i hi; have h2 := hnew j hj
      rw [e, h2] at h1; simpa using h1.symm
  have hfr : ∀ c k, bkN NN c = some k → fresh c σ = true := fun c k h => by
    have := newN_mem (bkN_mem h)
    exact freshR_spec c2 (by omega) (by omega)
  have hι2 : ∀ c, bkN NN c = none → ι2 c = ι c := fun c h => by simp only [ι2, h]
  have hlive : ∀ c x, geth (hpZ d Z R y σ.h) c = some (true, x) → (∃ k x0, c = ren k ∧ k ∈ Z.pins ++ Z.news ∧ geth (Z.h1 y) k = some (true, x0) ∧ x = renE ren x0) ∨ ((∀ k ∈ namesH Z.h0, lkr R k ≠ c) ∧ geth σ.h c = some (true, x) ∧ ι2 c = ι c) := by
    intro c x hx
    rcases renH_get y1 hinjL hx with ⟨k, x0, e1, e2, e3, e4⟩ | ⟨_, h2⟩
    · simp only [Prod.mk.injEq, true_and] at e4
      exact .inl ⟨k, x0, e1, e2, e3, e4⟩
    · obtain ⟨h3, h4⟩ := drops_get h2
      refine .inr ⟨h3, h4, hι2 c ?_⟩
      cases hb : bkN NN c with
      | none => rfl
      | some k =>
        have := c7 c (bkN_mem hb)
        rw [h4] at this; cases this
  have hblk : ∀ k x0 b cc, geth (Z.h1 y) k = some (true, x0) → ι' k = some (b, cc) → w.heap.size ≤ b ∨ X0 Z.h0 ιc b := fun k x0 b cc h1 h2 => (hent k x0 h1).blk h2
  have hokA : ∀ b, okOf C.F σ.h ι w b → okOf C.F (hpZ d Z R y σ.h) ι2 w' b := by
    intro b hb
    refine ⟨Nat.lt_of_lt_of_le hb.1 w4, fun c x cc hx hi => ?_, hb.2.2⟩
    rcases hlive c x hx with ⟨k, x0, rfl, hk, hg, _⟩ | ⟨_, h2, h3⟩
    · rw [hι k hk] at hi
      rcases hblk k x0 b cc hg hi with h | h
      · have := hb.1; omega
      · obtain ⟨c', x', cc', k1, _, k3⟩ := hX b h
        exact hb.2.1 c' x' cc' k1 k3
    · rw [h3] at hi; exact hb.2.1 c x cc h2 hi
  have hnX : ∀ b, okOf C.F σ.h ι w b → ¬ X0 Z.h0 ιc b := fun b hb h => by
    obtain ⟨c', x', cc', k1, _, k3⟩ := hX b h
    exact hb.2.1 c' x' cc' k1 k3
  have hw : ∀ b, okOf C.F σ.h ι w b → w'.heap[b]? = w.heap[b]? := fun b hb => hsame b hb.1 (hnX b hb)
  have hokB : ∀ b, okOf (FZ w (X0 Z.h0 ιc) G) (Z.h1 y) ι' w' b → okOf C.F (hpZ d Z R y σ.h) ι2 w' b := by
    intro b hb
    refine ⟨hb.1, fun c x cc hx hi => ?_, fun hF => ?_⟩
    · rcases hlive c x hx with ⟨k, x0, rfl, hk, hg, _⟩ | ⟨h1, h2, h3⟩
      · rw [hι k hk] at hi; exact hb.2.1 k x0 cc hg hi
      · rw [h3] at hi
        exact hb.2.2 ⟨.inr ⟨c, x, cc, h2, h1, hi⟩, S.live_lt h2 hi, hXold c x b cc h2 h1 hi⟩
    · exact hb.2.2 ⟨.inl hF, Nat.lt_of_lt_of_le hF.2.1 S.size, fun h => C.own_F (hXown b h) hF⟩
  have S' : SimI C ⟨σ.e, hpZ d Z R y σ.h⟩ ι2 a w' := by
    refine ⟨fun s => RepA.tr hokA hw _ _ (fun nm hn => hι2 nm ?_) (S.env s), fun c x hx => ?_, fun c c' x x' b cc cc' hx hx' hne hi hi' => ?_, w1.trans S.os, w2.trans S.tape, w3.trans S.output, Nat.le_trans S.size w4, fun k hk hX' => ?_, S.def0, S.tms⟩
    · cases hb : bkN NN nm with
      | none => rfl
      | some k =>
        have hf2 := hfr nm k hb
        simp only [fresh, Bool.and_eq_true] at hf2
        rw [get_refs hf2.1 s] at hn; cases hn
    · rcases hlive c x hx with ⟨k, x0, rfl, hk, hg, rfl⟩ | ⟨h1, h2, h3⟩
      · have E := hent k x0 hg
        rw [renE_ok]
        have E2 : EntOk C.own (okOf (FZ w (X0 Z.h0 ιc) G) (Z.h1 y) ι' w') ι' w' k x0 := E.ownTo fun b _ h => h.elim (fun h => .inl (Nat.le_trans S.size h)) (hXown b)
        exact E2.tr hokB (fun _ _ => rfl) (fun _ _ _ => rfl) (hι k hk) (fun j hj => hι j (clE_refs (clH_get y1 hg).2.1 j hj))
      · refine (S.ent c x h2).tr hokA hw (fun b cc hi => hsame b (S.live_lt h2 hi) (hXold c x b cc h2 h1 hi)) h3 (fun j hj => hι2 j ?_)
        cases hb : bkN NN j with
        | none => rfl
        | some k =>
          have hf2 := hfr j k hb
          simp only [fresh, Bool.and_eq_true] at hf2
          rw [geth_refs hf2.2 h2] at hj; cases hj
    · rcases hlive c x hx with ⟨k, x0, rfl, hk, hg, _⟩ | ⟨h1, h2, h3⟩ <;> rcases hlive c' x' hx' with ⟨k', x0', rfl, hk', hg', _⟩ | ⟨h1', h2', h3'⟩
      · rw [hι k hk] at hi; rw [hι k' hk'] at hi'
        exact hinj k k' x0 x0' b cc cc' hg hg' (fun e => hne (by rw [e])) hi hi'
      · rw [hι k hk] at hi; rw [h3'] at hi'
        rcases hblk k x0 b cc hg hi with h | h
        · have := S.live_lt h2' hi'; omega
        · exact hXold c' x' b cc' h2' h1' hi' h
      · rw [h3] at hi; rw [hι k' hk'] at hi'
        rcases hblk k' x0' b cc' hg' hi' with h | h
        · have := S.live_lt h2 hi; omega
        · exact hXold c x b cc h2 h1 hi h
      · rw [h3] at hi; rw [h3'] at hi'
        exact S.inj c c' x x' b cc cc' h2 h2' hne hi hi'
    · rw [hsame k (Nat.lt_of_lt_of_le hk S.size) (fun h => (hXown k h).elim (fun h => by omega) hX'), S.old k hk hX']
  refine hK y hq v w' ι2 S' ?_
  rw [renA_rep]
  exact RepA.tr hokB (fun _ _ => rfl) _ _ (fun nm hn => hι nm (clA_refs y2 nm hn)) hr
end
end Go.Eng

set_option linter.unusedSimpArgs false
set_option linter.unusedVariables false
namespace Go.Eng
open Go.RowKit

structure ZQ where
  Z : ZC
  R : List (Nat × Nat)
abbrev TH := FuncId → List AV → Hp → Option ZQ
def zOf (Θ : TH) (o : Oper) (σ : St) : Option (FuncId × List AV × Nat × ZQ) :=
  match o.guard with
  | some _ => none
  | none => match o.op with
    | .call ⟨.value (.func f), as, _⟩ => match o.dst with
      | some d => match Θ f ((as.toList.map (opnd σ.e)).map sp) σ.h with
        | some z => some (f, as.toList.map (opnd σ.e), d, z)
        | none => none
      | none => none
    | _ => none
def ixOf (P : Program) (o : Oper) (σ : St) : Option (Nat × AV × Prop) :=
  match o.guard, o.dst, o.op with
  | none, some d, .index T x y => match sp (opnd σ.e x), isI (sp (opnd σ.e y)), arOf P T with
    | .agg l, some (_, i), some (len, e) => match tyOf P e, l[i.toNat]? with
      | some (sz, ag), some a => bif sz == 1 && !ag && l.length == len then some (d, a, pk true (opnd σ.e x) ∧ pk true (opnd σ.e y) ∧ 0 ≤ i ∧ i < len) else none
      | _, _ => none
    | _, _, _ => none
  | _, _, _ => none
def runZ (P : Program) (Γ : FuncId → List D → RV) (Δ : FuncId → List AV → Hp → Option (List PX × RV)) (Θ : TH) (n : Nat) (L : List Oper) (fz : List Nat) (K : St → Prop) : List Oper → Rn → Prop
  | [], r => fin r.its (K r.σ)
  | o :: os, r => match zOf Θ o r.σ with
    | some (f, as, d, z) => (decide (d < n) && isFn P f && chkZ d z.Z z.R r.σ) = true ∧
        fin r.its (sideZ P f d z.Z z.R r.σ as ∧ ∀ y, z.Z.q y → runZ P Γ Δ Θ n L fz K os ⟨⟨(d, renA (lkr (RRof d z.Z z.R)) (z.Z.r y)) :: r.σ.e, hpZ d z.Z z.R y r.σ.h⟩, []⟩)
    | none => match ixOf P o r.σ with
      | some (d, a, s) => decide (d < n) = true ∧ fin r.its (s ∧ runZ P Γ Δ Θ n L fz K os ⟨⟨(d, a) :: r.σ.e, r.σ.h⟩, []⟩)
      | none => match stepX P Γ Δ n L fz o r with
        | some r' => runZ P Γ Δ Θ n L fz K os r'
        | none => False
theorem ixOf_sound {C : Ctx} {σ : St} {o : Oper} {d : Nat} {av : AV} {s : Prop} (h : ixOf C.P o σ = some (d, av, s)) : o.guard = none ∧ o.dst = some d ∧ (s → ∀ ι a w, SimI C σ ι a w → ∃ v, (execOp a.eval o).run C.P w = .ok (.value v) w ∧ RepA (okOf C.F σ.h ι w) ι w av v) := by
  unfold ixOf at h
  split at h
  · rename_i d' T x y hg hd ho
    split at h
    · rename_i l k i len e hx hy he
      split at h
      · rename_i sz ag a ht hl
        cases hz : (sz == 1 && !ag && l.length == len)
        · rw [hz] at h; cases h
        · rw [hz, cond_true] at h
          simp only [Option.some.injEq, Prod.mk.injEq] at h
          obtain ⟨rfl, rfl, rfl⟩ := h
          simp only [Bool.and_eq_true, beq_iff_eq, Bool.not_eq_true'] at hz
          obtain ⟨⟨rfl, rfl⟩, hlen⟩ := hz
          refine ⟨hg, hd, fun ⟨p1, p2, h0, h1⟩ ι a' w S => ?_⟩
          have ex := S.sopnd rfl x p1
          have ey := isI_rep (S.sopnd rfl y p2) hy
          rw [hx] at ex
          simp only [RepA] at ex
          obtain ⟨vs, ex, hr⟩ := ex
          have hu := arOf_some he
          have hsz := ty_size (w := w) ht
          have ht' := (ty_one (w := w) ht).1
          obtain ⟨v, hv, hrv, _⟩ := RepAs_get _ hr hl
          refine ⟨v, ?_, hrv⟩
          simp [execOp, ho, ex, ey, Instr.index, run_underlying hu, asIntOf, h0, h1, hsz, part, ht', hv]
      · cases h
    · cases h
  · cases h
theorem zOf_some {Θ : TH} {o : Oper} {σ : St} {f : FuncId} {as : List AV} {d : Nat} {z : ZQ} (h : zOf Θ o σ = some (f, as, d, z)) : o.guard = none ∧ o.dst = some d ∧ ∃ args ts, o.op = .call ⟨.value (.func f), args, ts⟩ ∧ as = args.toList.map (opnd σ.e) := by
  unfold zOf at h
  split at h
  · cases h
  · rename_i hg
    split at h
    · rename_i f' args ts ho
      split at h
      · rename_i d' hd
        split at h
        · simp only [Option.some.injEq, Prod.mk.injEq] at h
          obtain ⟨rfl, rfl, rfl, rfl⟩ := h
          exact ⟨hg, hd, args, ts, ho, rfl⟩
        · cases h
      · cases h
    · cases h
section
variable {C : Ctx} {σ : St}
theorem runZ_sound {Γ : FuncId → List D → RV} {Δ : FuncId → List AV → Hp → Option (List PX × RV)} {Θ : TH} {L : List Oper} {fz : List Nat} {K : St → Prop} {Q : Exit → Act → World → Prop} (hQ : ∀ σ a w, K σ → Sim C σ a w → Q .normal a w) :
    ∀ (os : List Oper) (k : Nat) (r : Rn), L.drop k = os → runZ C.P Γ Δ Θ C.n L fz K os r → fin r.its (∀ ι a w, SimI C r.σ ι a w → wpOps C.P L.toArray Q (List.range' k os.length) a w)
  | [], k, r, hk, h => by
    simp only [runZ] at h
    refine fin_mono (fun hK ι a w S => ?_) h
    simp only [List.length_nil, List.range'_zero, wpOps]
    exact hQ _ a w hK ⟨ι, S⟩
  | o :: os, k, r, hk, h => by
    have hk' : L.drop (k + 1) = os := by rw [← List.drop_drop, hk]; rfl
    have ho : L[k]? = some o := by
      have := congrArg (·[0]?) hk
      simpa using this
    simp only [runZ] at h
    split at h
    · rename_i f as d z hz
      obtain ⟨h1, h2⟩ := h
      simp only [Bool.and_eq_true, decide_eq_true_eq] at h1
      obtain ⟨⟨h3, h4⟩, h5⟩ := h1
      obtain ⟨g1, g2, args, ts, g3, rfl⟩ := zOf_some hz
      refine fin_mono (fun hS ι a w S => ?_) h2
      simp only [List.length_cons, List.range'_succ, wpOps, List.getElem?_toArray, ho]
      have hw : Region.wanted o (yielded L.toArray a.tmps) = true := by simp [Region.wanted, g1]
      rw [if_pos hw]
      refine .inl (snd_callZ g3 h4 h5 hS.1 ι a w S _ _ fun y hq v w' ι' S' hr => ?_)
      have ih := runZ_sound hQ os (k + 1) _ hk' (hS.2 y hq)
      simp only [fin] at ih
      rw [g2]
      exact ih ι' _ w' (S'.put h3 hr)
    · split at h
      · rename_i d av s hix
        obtain ⟨h3, h2⟩ := h
        simp only [decide_eq_true_eq] at h3
        obtain ⟨g1, g2, hsnd⟩ := ixOf_sound hix
        refine fin_mono (fun hS ι a w S => ?_) h2
        simp only [List.length_cons, List.range'_succ, wpOps, List.getElem?_toArray, ho]
        have hw : Region.wanted o (yielded L.toArray a.tmps) = true := by simp [Region.wanted, g1]
        rw [if_pos hw]
        obtain ⟨v, hv, hr⟩ := hsnd hS.1 ι a w S
        refine .inl ?_
        unfold Oper.wp
        rw [hv]
        have ih := runZ_sound hQ os (k + 1) _ hk' hS.2
        simp only [fin] at ih
        have := ih ι _ w (S.put h3 hr)
        show wpOps C.P L.toArray Q (List.range' (k + 1) os.length) (a.put o.dst v) w
        rw [g2]; exact this
      split at h
      · rename_i r' hs
        obtain ⟨its, hi, hstep⟩ := stepX_sound hs
        have ih := runZ_sound hQ os (k + 1) r' hk' h
        rw [hi] at ih
        refine fin_mono (fun hS ι a w S => ?_) (fin_append ih)
        simp only [List.length_cons, List.range'_succ, wpOps, List.getElem?_toArray, ho]
        have h1 := hstep _ hS ι a w S (wpOps C.P L.toArray Q (List.range' (k + 1) os.length)) Q (fun hh ι' a' w' S' => hh ι' a' w' S')
        split
        · rename_i hw; rw [if_pos hw] at h1; exact .inl h1
        · rename_i hw; rw [if_neg hw] at h1; exact h1
      · exact h.elim
theorem WA_regionZ {K R : St → Prop} {E : Nat → St → Prop} {id : Nat} {ops : Array Oper} (Γ : FuncId → List D → RV) (Δ : FuncId → List AV → Hp → Option (List PX × RV)) (Θ : TH) (fz V : List Nat)
    (h : runZ C.P Γ Δ Θ C.n ops.toList fz (fun σ' => K (gather V σ')) ops.toList ⟨σ, []⟩) : WA C (.region id ops false) K R E σ := by
  unfold WA
  intro a w S
  obtain ⟨ι, S⟩ := S
  have h1 := runZ_sound (C := C) (Q := QQ C K R E) (K := fun σ' => K (gather V σ')) (fun σ a w hk hs => ⟨_, hk, hs.gather V⟩) ops.toList 0 ⟨σ, []⟩ (by simp) h
  simp only [fin] at h1
  have h2 := h1 ι a w S
  refine wp_region ?_
  simpa [List.range_eq_range'] using h2
theorem V_regionZ {K R : St → Prop} {E : Nat → St → Prop} {id : Nat} {ops : Array Oper} (Γ : FuncId → List D → RV) (Δ : FuncId → List AV → Hp → Option (List PX × RV)) (Θ : TH) (fz V : List Nat)
    (h : Ev (runZ C.P Γ Δ Θ C.n ops.toList fz (fun σ' => K (gather V σ')) ops.toList ⟨σ, []⟩)) : WA C (.region id ops false) K R E σ := WA_regionZ Γ Δ Θ fz V h.out
end
end Go.Eng

set_option linter.unusedSimpArgs false
set_option linter.unusedVariables false
namespace Go.Eng
open Go.RowKit

section
variable {C : Ctx} {σ : St} {K R : St → Prop} {E : Nat → St → Prop}
theorem SimI.trim {ι : Nat → Option (Nat × Nat)} {a : Act} {w : World} (S : SimI C σ ι a w) {nm T n : Nat} {l : List (List D)} (m : Nat) (h : geth σ.h nm = some (true, .arr T n l)) : SimI C ⟨σ.e, (nm, some (true, .arr T n (l.take m))) :: σ.h⟩ ι a w := by
  have hlive : ∀ k x, geth ((nm, some (true, .arr T n (l.take m))) :: σ.h) k = some (true, x) → ∃ y, geth σ.h k = some (true, y) ∧ ((k ≠ nm ∧ y = x) ∨ (k = nm ∧ x = .arr T n (l.take m))) := by
    intro k x hk
    simp only [geth] at hk
    cases hn : nm == k
    · rw [hn, cond_false] at hk
      exact ⟨x, hk, .inl ⟨fun e => by simp [e] at hn, rfl⟩⟩
    · rw [hn, cond_true] at hk
      simp only [beq_iff_eq] at hn; subst hn
      simp only [Option.some.injEq, Prod.mk.injEq, true_and] at hk
      exact ⟨_, h, .inr ⟨rfl, hk.symm⟩⟩
  have hok : ∀ b, okOf C.F σ.h ι w b → okOf C.F ((nm, some (true, .arr T n (l.take m))) :: σ.h) ι w b := fun b hb => ⟨hb.1, fun k x c hx => by
    obtain ⟨y, hy, _⟩ := hlive k x hx
    exact hb.2.1 k y c hy, hb.2.2⟩
  refine ⟨fun s => RepA.tr hok (fun _ _ => rfl) _ _ (fun _ _ => rfl) (S.env s), fun k x hx => ?_, fun k k' x x' b c c' hx hx' => ?_, S.os, S.tape, S.output, S.size, S.old, S.def0, S.tms⟩
  · obtain ⟨y, hy, hh⟩ := hlive k x hx
    rcases hh with ⟨_, rfl⟩ | ⟨rfl, rfl⟩
    · exact (S.ent k y hy).tr hok (fun _ _ => rfl) (fun _ _ _ => rfl) rfl (fun _ _ => rfl)
    · rcases S.ent k _ h with ⟨h1, h2⟩ | ⟨b, cap, cur, h1, h2, h3, h4, h5, h6, h7⟩
      · exact .inl ⟨h1, by simp [h2]⟩
      · refine .inr ⟨b, cap, cur, h1, h2, h3, h4, ?_, ⟨h6.1, ?_⟩, ?_⟩
        · simp; omega
        · simp; omega
        · have h8 := RepDss_take m (RepDss.tr hok (fun _ _ => rfl) _ _ _ h7)
          have e : (cur.toList.take (l.length * n)).take (m * n) = cur.toList.take ((l.take m).length * n) := by
            rw [List.take_take, List.length_take]
            congr 1
            rcases Nat.le_total m l.length with hm | hm
            · rw [Nat.min_eq_left hm, Nat.min_eq_left (Nat.mul_le_mul_right _ hm)]
            · rw [Nat.min_eq_right hm, Nat.min_eq_right (Nat.mul_le_mul_right _ hm)]
          rw [e] at h8; exact h8
  · obtain ⟨y, hy, _⟩ := hlive k x hx
    obtain ⟨y', hy', _⟩ := hlive k' x' hx'
    exact S.inj k k' y y' b c c' hy hy'
def trims : List (Nat × Nat) → Hp → Option Hp
  | [], h => some h
  | (nm, m) :: l, h => match geth h nm with
    | some (true, .arr T n x) => trims l ((nm, some (true, .arr T n (x.take m))) :: h)
    | _ => none
theorem trims_sim {a : Act} {w : World} {e : List (Nat × AV)} : ∀ {l : List (Nat × Nat)} {h h' : Hp}, trims l h = some h' → Sim C ⟨e, h⟩ a w → Sim C ⟨e, h'⟩ a w
  | [], h, h', ht, S => by simp only [trims, Option.some.injEq] at ht; subst ht; exact S
  | (nm, m) :: l, h, h', ht, S => by
    simp only [trims] at ht
    split at ht
    · rename_i T n x hg
      obtain ⟨ι, S⟩ := S
      exact trims_sim ht ⟨ι, SimI.trim (σ := ⟨e, h⟩) S m hg⟩
    · cases ht
def Trm (l : List (Nat × Nat)) (h : Hp) (k : Hp → Prop) : Prop := match trims l h with
  | some h' => k h'
  | none => False
theorem V_trim {c : Code} (l : List (Nat × Nat)) (h : Ev (Trm l σ.h fun h' => WA C c K R E ⟨σ.e, nrm 100 h'⟩)) : WA C c K R E σ := by
  have h1 := h.out
  unfold Trm at h1
  split at h1
  · rename_i h' ht
    refine WA_sub (fun a w S => ?_) h1
    obtain ⟨ι, S2⟩ := trims_sim (e := σ.e) ht S
    exact ⟨ι, S2.hcongr fun k => geth_nrm⟩
  · exact h1.elim
end
end Go.Eng

namespace Go.Eng
open Go.RowKit Go.ChangeShapes Go.WideShapes

def Opn (P : Program) (w : World) (t : TypeId) (S : List D → Prop) : Prop :=
  ∀ (H : Type) (enc : TypeId × Value → H) (fuel : Nat) (cs : List Value) (x : DataW H × List MemPlace), DataW.trod enc P w 0 (fun _ => true) true fuel t cs = some x → (∀ k ∈ x.1.weights P t, k ≤ reachBytes) → ∃ l, S l ∧ RepDs (· < w.heap.size) w l cs

section
variable {P : Program} {w : World} {t e : TypeId}

theorem opn_int {k : IntKind} (ht : P.underlying t = some (.int k)) : Opn P w t fun l => ∃ n, (Lit.int k n).wf = true ∧ l = [dOf (.int k n)] := by
  intro H enc fuel cs x h _
  obtain ⟨n, rfl, _, hw⟩ := DataW.trod_int ht h
  refine ⟨_, ⟨n, hw, rfl⟩, ?_⟩
  simp only [RepDs]
  exact ⟨_, _, rfl, RepD_dOf _ _ _, rfl, rfl⟩

def SAll : List (List D → Prop) → List D → Prop
  | [], l => l = []
  | S :: Ss, l => ∃ a b, l = a ++ b ∧ S a ∧ SAll Ss b
def chain (P : Program) (k : Nat) : List Field → Nat → Prop
  | [], n => n = k
  | f :: l, n => f.offset = k ∧ chain P (k + P.cellsOf f.type) l n
def chainB (P : Program) (k : Nat) : List Field → Nat → Bool
  | [], n => n == k
  | f :: l, n => f.offset == k && chainB P (k + P.cellsOf f.type) l n
theorem chainB_spec {P : Program} : ∀ {l : List Field} {k n : Nat}, chainB P k l n = true → chain P k l n
  | [], k, n, h => by simpa [chainB, chain] using h
  | f :: l, k, n, h => by
    simp only [chainB, Bool.and_eq_true, beq_iff_eq] at h
    exact ⟨h.1, chainB_spec h.2⟩
def opnAll (P : Program) (w : World) : List Field → List (List D → Prop) → Prop
  | [], [] => True
  | f :: l, S :: Ss => Opn P w f.type S ∧ opnAll P w l Ss
  | _, _ => False

theorem fields_rep {H : Type} {enc : TypeId × Value → H} {fuel : Nat} {cs : List Value} : ∀ (fs : List Field) (Ss : List (List D → Prop)) (k : Nat) (xs : List (DataW H × List MemPlace)), opnAll P w fs Ss → chain P k fs cs.length →
    xs.length = fs.length → (∀ (i : Nat) (f : Field), fs[i]? = some f → DataW.trod enc P w 0 (fun _ => true) true fuel f.type ((cs.drop f.offset).take (P.cellsOf f.type)) = xs[i]?) →
    (∀ n ∈ DataW.weightsEach P (fs.map (·.type)) (xs.map (·.1)), n ≤ reachBytes) → ∃ l, SAll Ss l ∧ RepDs (· < w.heap.size) w l (cs.drop k)
  | [], [], k, xs, _, hc, _, _, _ => by
    simp only [chain] at hc
    exact ⟨[], rfl, by simp only [RepDs]; exact List.drop_of_length_le (by omega)⟩
  | [], _ :: _, _, _, h, _, _, _, _ => by simp [opnAll] at h
  | _ :: _, [], _, _, h, _, _, _, _ => by simp [opnAll] at h
  | f :: fs, S :: Ss, k, [], _, _, hl, _, _ => by simp at hl
  | f :: fs, S :: Ss, k, x :: xs, h, hc, hl, hx, hw => by
    simp only [opnAll] at h
    simp only [chain] at hc
    obtain ⟨rfl, hc⟩ := hc
    have h0 := hx 0 f rfl
    simp only [List.getElem?_cons_zero] at h0
    obtain ⟨a, ha, hra⟩ := h.1 H enc fuel _ x h0 (fun n hn => hw n (by simp only [List.map_cons, DataW.weightsEach, List.mem_append]; exact .inl hn))
    obtain ⟨b, hb, hrb⟩ := fields_rep fs Ss (f.offset + P.cellsOf f.type) xs h.2 hc (by simpa using hl) (fun i g hg => by simpa using hx (i + 1) g (by simpa using hg)) (fun n hn => hw n (by simp only [List.map_cons, DataW.weightsEach, List.mem_append]; exact .inr hn))
    refine ⟨a ++ b, ⟨a, b, rfl, ha, hb⟩, ?_⟩
    have e : cs.drop f.offset = (cs.drop f.offset).take (P.cellsOf f.type) ++ cs.drop (f.offset + P.cellsOf f.type) := by
      rw [← List.drop_drop, List.take_append_drop]
    rw [e]
    exact RepDs_append hra hrb

theorem opn_struct {fs : Array Field} {Ss : List (List D → Prop)} (ht : P.underlying t = some (.struct fs)) (hc : chain P 0 fs.toList (P.cellsOf t)) (ho : opnAll P w fs.toList Ss) : Opn P w t (SAll Ss) := by
  intro H enc fuel cs x h hw
  obtain ⟨xs, n, rfl, rfl, hl, hlen, hx⟩ := DataW.trod_struct ht h
  obtain ⟨l, h1, h2⟩ := fields_rep (P := P) (w := w) (enc := enc) (fuel := n) (cs := cs) fs.toList Ss 0 xs ho (by rw [hl]; exact hc) (by simpa using hlen) (fun i f hf => hx i f (by simpa using hf)) (fun k hk => hw k (by simp only [DataW.weights, ht]; exact hk))
  exact ⟨l, h1, by simpa using h2⟩

theorem weightsAll_mem {H : Type} {n : Nat} : ∀ {l : List (DataW H)} {d : DataW H}, d ∈ l → n ∈ d.weights P e → n ∈ DataW.weightsAll P e l
  | [], d, h, _ => by simp at h
  | a :: l, d, h, hn => by
    simp only [DataW.weightsAll, List.mem_append]
    simp only [List.mem_cons] at h
    rcases h with rfl | h
    · exact .inl hn
    · exact .inr (weightsAll_mem h hn)

theorem add_none {b o j : Nat} : (⟨b, o, none⟩ : Addr).add j = ⟨b, o + j, none⟩ := by unfold Addr.add; split <;> simp_all

theorem elems_rep {S : List D → Prop} {n : Nat} {b o : Nat} : ∀ (m : Nat), (∀ i, i < m → ∃ cs, cs.length = n ∧ (∀ j u, cs[j]? = some u → w.cell? ⟨b, o + i * n + j, none⟩ = some u) ∧ ∃ l, S l ∧ RepDs (· < w.heap.size) w l cs) →
    ∃ (els : List (List D)) (vs : List Value), els.length = m ∧ (∀ x ∈ els, S x) ∧ RepDss (· < w.heap.size) w n els vs ∧ cellsAt w b o vs
  | 0, _ => ⟨[], [], rfl, by simp, by simp only [RepDss], fun j u h => by simp at h⟩
  | m + 1, h => by
    obtain ⟨els, vs, h1, h2, h3, h4⟩ := elems_rep m fun i hi => h i (by omega)
    obtain ⟨cs, c1, c2, l, c3, c4⟩ := h m (by omega)
    have hl := RepDss_length h3
    refine ⟨els ++ [l], vs ++ cs, by simp [h1], ?_, RepDss_append h3 (by simp only [RepDss]; exact ⟨cs, [], by simp, c1, c4, rfl⟩), ?_⟩
    · intro x hx
      simp only [List.mem_append, List.mem_singleton] at hx
      rcases hx with hx | rfl
      · exact h2 x hx
      · exact c3
    · intro j u hu
      by_cases hj : j < vs.length
      · rw [List.getElem?_append_left hj] at hu; exact h4 j u hu
      · rw [List.getElem?_append_right (by omega)] at hu
        have hv : vs.length = m * n := by rw [hl, h1]
        have := c2 _ u hu
        rw [hv] at this hj
        rw [← this]; congr 2; omega

theorem opn_slice {S : List D → Prop} {n : Nat} (ht : P.underlying t = some (.slice e)) (hc : P.cellsOf e = n) (hn : 0 < n) (hb : 0 < P.bytesOf e) (h : Opn P w e S) : Opn P w t fun l => ∃ els : List (List D), (∀ x ∈ els, S x) ∧ els.length * P.bytesOf e ≤ reachBytes ∧ l = [.sl n els] := by
  intro H enc fuel cs x hx hw
  rcases DataW.trod_slice ht hx with ⟨rfl, rfl⟩ | ⟨a, len, cap, elems, rest, m, rfl, rfl, rfl, _, hl, hm, hlen, hel, _, _⟩
  · refine ⟨_, ⟨[], by simp, by simp, rfl⟩, ?_⟩
    simp only [RepDs, RepD]
    exact ⟨_, _, rfl, ⟨by simp, .inl ⟨trivial, _, _, rfl⟩⟩, rfl, rfl⟩
  · simp only [DataW.weights, ht] at hw
    have hsz : len * P.bytesOf e ≤ reachBytes := by
      have := hw ((List.map (fun x => x.1) elems).length + (List.map (fun x => x.1) rest).length) |> fun f => hw (((List.map (fun x => x.1) elems).length + (List.map (fun x => x.1) rest).length) * P.bytesOf e) (by simp)
      have h2 : len * P.bytesOf e ≤ ((List.map (fun x => x.1) elems).length + (List.map (fun x => x.1) rest).length) * P.bytesOf e := Nat.mul_le_mul_right _ (by simp [hlen])
      omega
    have hlb : len ≤ 281474976710656 := by
      have h2 : len * 1 ≤ len * P.bytesOf e := Nat.mul_le_mul_left _ hb
      unfold reachBytes at hsz; omega
    by_cases h0 : len = 0
    · subst h0
      refine ⟨_, ⟨[], by simp, by simp, rfl⟩, ?_⟩
      simp only [RepDs, RepD]
      exact ⟨_, _, rfl, ⟨by simp, .inl ⟨trivial, _, _, rfl⟩⟩, rfl, rfl⟩
    · have hcell : ∀ i, i < len → ∃ cs y, w.cells? 0 (a.add (i * n)) n = some cs ∧ elems[i]? = some y ∧ DataW.trod enc P w 0 (fun _ => true) true m e cs = some y := by
        intro i hi
        have h1 := hel i hi
        rw [hc] at h1
        have h2 : i < elems.length := by omega
        rw [List.getElem?_eq_getElem h2] at h1
        obtain ⟨cs, h3, h4⟩ := Option.bind_eq_some_iff.1 h1
        exact ⟨cs, _, h3, List.getElem?_eq_getElem h2, h4⟩
      have hspot : a = ⟨a.block, a.off, none⟩ ∧ a.block < w.heap.size := by
        obtain ⟨cs, y, h1, _, _⟩ := hcell 0 (by omega)
        have h2 := World.cells?_some h1
        have h3 := h2.2.2 0 hn
        have h4 : cs[0]? = some (cs[0]'(by omega)) := List.getElem?_eq_getElem _
        rw [h4] at h3
        simp only [Nat.zero_mul, Addr.add, if_true] at h3
        obtain ⟨B, O, sp⟩ := a
        unfold World.cell? at h3
        split at h3
        · rename_i hh
          cases sp with
          | none => exact ⟨rfl, (Array.getElem?_eq_some_iff.1 hh).1⟩
          | some k => simp at h3
        · cases h3
      obtain ⟨els, vs, e1, e2, e3, e4⟩ := elems_rep (w := w) (S := S) (n := n) (b := a.block) (o := a.off) len (by
        intro i hi
        obtain ⟨cs, y, h1, h2, h3⟩ := hcell i hi
        have h4 := World.cells?_some h1
        refine ⟨cs, h4.2.1, fun j u hu => ?_, h H enc m cs y h3 fun k hk => hw k ?_⟩
        · have hj : j < n := by rw [← h4.2.1]; exact (List.getElem?_eq_some_iff.1 hu).1
          have := h4.2.2 j hj
          rw [hu, hspot.1, add_none, add_none] at this
          exact this
        · refine List.mem_cons_of_mem _ (List.mem_append.2 (.inl (weightsAll_mem (d := y.1) ?_ hk)))
          exact List.mem_map.2 ⟨y, List.mem_of_getElem? h2, rfl⟩)
      refine ⟨_, ⟨els, e2, by rw [e1]; exact hsz, rfl⟩, ?_⟩
      simp only [RepDs, RepD]
      refine ⟨_, _, rfl, ⟨by omega, .inr ⟨a.block, a.off, cap, vs, by rw [e1, ← hspot.1], by omega, hspot.2, e3, e4⟩⟩, rfl, rfl⟩
end
section
variable {H : Type} {enc : TypeId × Value → H} {P : Program} {w : World} {base : Nat} {spare : Nat → Bool} {held : Bool}
end
end Go.Eng

set_option linter.unusedSimpArgs false
set_option linter.unusedVariables false
namespace Go.Eng
open Go.RowKit

def nxOf (o : Oper) (σ : St) : Option (Nat × Nat × Nat × List (List Int × D) × Prop) :=
  match o.guard, o.dst, o.op with
  | none, some d, .next x false => match sp (opnd σ.e x) with
    | .pt nm 0 => match geth σ.h nm with
      | some (g', .it n l _) => some (d, nm, n, l, pk true (opnd σ.e x) ∧ g' = true)
      | _ => none
    | _ => none
  | _, _, _ => none
def runN {β : Type} (P : Program) (Γ : FuncId → List D → RV) (Δ : FuncId → List AV → Hp → Option (List PX × RV)) (Θ : TH) (n : Nat) (L : List Oper) (fz : List Nat) (G : β → List Int × D) (K : St → Prop) : List Oper → St → Prop
  | [], _ => False
  | o :: os, σ => match nxOf o σ with
    | some (d, nm, m, l, s) => decide (d < n) = true ∧ s ∧ (∀ p ∈ l, ∃ y, G y = p) ∧
        (l = [] → runZ P Γ Δ Θ n L fz K os ⟨⟨(d, .tup [.dat (.b false)]) :: σ.e, σ.h⟩, []⟩) ∧
        ∀ y j, l[j]? = some (G y) → runZ P Γ Δ Θ n L fz K os ⟨⟨(d, .tup [.dat (.b true), .dat (keyD m (G y).1), .dat (G y).2]) :: σ.e, (nm, some (true, .it m (l.eraseIdx j) (some (G y)))) :: σ.h⟩, []⟩
    | none => False
theorem nxOf_some {o : Oper} {σ : St} {d nm n : Nat} {l : List (List Int × D)} {s : Prop} (h : nxOf o σ = some (d, nm, n, l, s)) : o.guard = none ∧ o.dst = some d ∧ ∃ x g' cur, o.op = .next x false ∧ sp (opnd σ.e x) = .pt nm 0 ∧ geth σ.h nm = some (g', .it n l cur) ∧ (s → pk true (opnd σ.e x) ∧ g' = true) := by
  unfold nxOf at h
  split at h
  · rename_i d' x hg hd ho
    split at h
    · rename_i nm' hx
      split at h
      · rename_i g' n' l' cur hh
        simp only [Option.some.injEq, Prod.mk.injEq] at h
        obtain ⟨rfl, rfl, rfl, rfl, rfl⟩ := h
        exact ⟨hg, hd, x, g', cur, ho, hx, hh, fun h => h⟩
      · cases h
    · cases h
  · cases h
section
variable {C : Ctx} {σ : St} {K R : St → Prop} {E : Nat → St → Prop} {β : Type}
theorem WA_regionN {id : Nat} {ops : Array Oper} (Γ : FuncId → List D → RV) (Δ : FuncId → List AV → Hp → Option (List PX × RV)) (Θ : TH) (fz V : List Nat) (G : β → List Int × D)
    (h : runN C.P Γ Δ Θ C.n ops.toList fz G (fun σ' => K (gather V σ')) ops.toList σ) : WA C (.region id ops false) K R E σ := by
  unfold WA
  intro a w S
  obtain ⟨ι, S⟩ := S
  cases hL : ops.toList with
  | nil => rw [hL] at h; simp only [runN] at h
  | cons o os =>
    rw [hL] at h
    simp only [runN] at h
    split at h
    · rename_i d nm m l s hn
      obtain ⟨h1, h2, h3, h4, h5⟩ := h
      simp only [decide_eq_true_eq] at h1
      obtain ⟨g1, g2, x, g', cur, g3, g4, g5, g6⟩ := nxOf_some hn
      obtain ⟨g7, rfl⟩ := g6 h2
      obtain ⟨v, w', r1, r2⟩ := snd_next g3 g4 g7 g5 S
      have hQ : ∀ σ a w, K (gather V σ) → Sim C σ a w → (QQ C K R E) .normal a w := fun σ a w hk hs => ⟨_, hk, hs.gather V⟩
      have go : ∀ (σ1 : St), runZ C.P Γ Δ Θ C.n (o :: os) fz (fun σ' => K (gather V σ')) os ⟨σ1, []⟩ → ∀ ι a w, SimI C σ1 ι a w → wpOps C.P (o :: os).toArray (QQ C K R E) (List.range' 1 os.length) a w := fun σ1 hz => by
        have h6 := runZ_sound (C := C) (Q := QQ C K R E) (K := fun σ' => K (gather V σ')) hQ os 1 ⟨σ1, []⟩ (by simp) hz
        simpa only [fin] using h6
      refine wp_region ?_
      have hsz : ops.size = os.length + 1 := by have := congrArg List.length hL; simpa using this
      have harr : (o :: os).toArray = ops := by rw [← hL]
      have hops : ops[0]? = some o := by rw [← harr]; simp
      rw [List.range_eq_range', hsz, List.range'_succ]
      have hstep : ∀ (Q : Act → World → Prop), Q (a.put o.dst v) w' → o.wp C.P a w Q (QQ C K R E) := fun Q hq => by
        unfold Oper.wp
        rw [r1]
        exact hq
      simp only [wpOps, hops]
      have hw : Region.wanted o (yielded ops a.tmps) = true := by simp [Region.wanted, g1]
      rw [if_pos hw]
      refine .inl (hstep _ ?_)
      rw [g2]
      rw [harr] at go
      rcases r2 with ⟨rfl, rfl, rfl⟩ | ⟨j, p, r3, r4, r5⟩
      · refine go _ (h4 rfl) ι _ _ (S.put h1 ?_)
        simp only [RepA]
        exact ⟨[.bool false], rfl, by simp only [RepAs, RepA, RepD]; exact ⟨_, _, rfl, rfl, by simp, rfl⟩⟩
      · obtain ⟨y, rfl⟩ := h3 p (List.mem_of_getElem? r3)
        exact go _ (h5 y j r3) ι _ _ (r4.put h1 r5)
    · exact h.elim
theorem V_regionN {id : Nat} {ops : Array Oper} (Γ : FuncId → List D → RV) (Δ : FuncId → List AV → Hp → Option (List PX × RV)) (Θ : TH) (fz V : List Nat) (G : β → List Int × D)
    (h : Ev (runN C.P Γ Δ Θ C.n ops.toList fz G (fun σ' => K (gather V σ')) ops.toList σ)) : WA C (.region id ops false) K R E σ := WA_regionN Γ Δ Θ fz V G h.out
end
end Go.Eng

set_option linter.unusedSimpArgs false
set_option linter.unusedVariables false
namespace Go.Eng
open Go.RowKit

def bOf : List (Nat × List Nat) → Nat → Option (List Nat)
  | [], _ => none
  | (j, l) :: L, i => bif j == i then some l else bOf L i
mutual
def inN (l : List Nat) : AV → Bool
  | .pt m _ => l.contains m
  | .ep m _ _ _ => l.contains m
  | .vw m _ _ _ => l.contains m
  | .agg x => inNL l x
  | .tup x => inNL l x
  | .gd _ x => inN l x
  | .pin _ x => inN l x
  | .cl _ x => inNL l x
  | .mp m => l.contains m
  | _ => true
def inNL (l : List Nat) : List AV → Bool
  | [] => true
  | a :: x => inN l a && inNL l x
end
mutual
theorem inN_mem {l : List Nat} {k : Nat} : ∀ {a : AV}, inN l a = true → a.refs k = true → k ∈ l
  | .pt m _, h, r | .ep m _ _ _, h, r | .vw m _ _ _, h, r | .mp m, h, r => by
    simp only [inN, List.contains_iff_mem] at h
    simp only [AV.refs, beq_iff_eq] at r
    subst r; exact h
  | .agg x, h, r | .tup x, h, r | .cl _ x, h, r => by
    simp only [inN] at h
    simp only [AV.refs] at r
    exact inNL_mem h r
  | .gd _ x, h, r | .pin _ x, h, r => by
    simp only [inN] at h
    simp only [AV.refs] at r
    exact inN_mem h r
  | .un, h, r | .dat _, h, r | .rp _, h, r => by simp [AV.refs] at r
theorem inNL_mem {l : List Nat} {k : Nat} : ∀ {a : List AV}, inNL l a = true → AV.refsL k a = true → k ∈ l
  | [], h, r => by simp [AV.refsL] at r
  | a :: x, h, r => by
    simp only [inNL, Bool.and_eq_true] at h
    simp only [AV.refsL, Bool.or_eq_true] at r
    exact r.elim (inN_mem h.1) (inNL_mem h.2)
end
def appM (o : Oper) : Bool := match o.op with
  | .call ⟨.builtin .append, _, _⟩ => true
  | _ => !muts o
def allN (l : List Nat) (e : List (Nat × AV)) : List Operand → Bool
  | [] => true
  | z :: x => inN l (opnd e z) && allN l e x
def nmOk (P : Program) (B : List (Nat × List Nat)) (o : Oper) (i : Nat) (e : List (Nat × AV)) : Prop := match bOf B i with
  | none => True
  | some l => allN l e o.op.operands.toList = true
theorem allN_mem {l : List Nat} {e : List (Nat × AV)} : ∀ {x : List Operand}, allN l e x = true → ∀ z ∈ x, inN l (opnd e z) = true
  | [], _, z, hz => by simp at hz
  | y :: x, h, z, hz => by
    simp only [allN, Bool.and_eq_true] at h
    simp only [List.mem_cons] at hz
    rcases hz with rfl | hz
    · exact h.1
    · exact allN_mem h.2 z hz
theorem allN_congr {l : List Nat} {e e' : List (Nat × AV)} : ∀ {x : List Operand}, (∀ z ∈ x, opnd e z = opnd e' z) → allN l e x = allN l e' x
  | [], _ => rfl
  | y :: x, h => by
    simp only [allN]
    rw [h y (by simp), allN_congr fun z hz => h z (by simp [hz])]

section
variable {P : Program} {Γ : FuncId → List D → RV} {fz : List Nat} {L : List Oper} {σ σ' : St} {o : Oper} {g : Bool} {ops : Array Oper} {B : List (Nat × List Nat)}
theorem nmOk_congr {i : Nat} {e e' : List (Nat × AV)} (he : ∀ z ∈ o.op.operands, opnd e z = opnd e' z) (h : nmOk P B o i e) : nmOk P B o i e' := by
  unfold nmOk at h ⊢
  split
  · trivial
  · rename_i l hB
    rw [hB] at h
    simp only at h
    rw [← h]
    exact (allN_congr fun z hz => he z (Array.mem_toList_iff.1 hz)).symm
theorem nmOk_mem {i : Nat} {l : List Nat} {e : List (Nat × AV)} (hB : bOf B i = some l) (h : nmOk P B o i e) : ∀ z ∈ o.op.operands, ∀ k, (opnd e z).refs k = true → k ∈ l := by
  unfold nmOk at h
  rw [hB] at h
  exact fun z hz k hk => inN_mem (allN_mem h z (Array.mem_toList_iff.2 hz)) hk
theorem outOf_names2 {out : Out} (h : outOf P Γ fz o g σ = some out) (hm : appM o = true) : ∀ m x, (m, x) ∈ out.hp → (isNm o m ∧ fresh m σ = true) ∨ ∃ z ∈ o.op.operands, (opnd σ.e z).refs m = true := by
  by_cases hmu : muts o = false
  · exact fun m x hx => .inl (outOf_names h hmu m x hx)
  have hop : ∃ as ts, o.op = .call ⟨.builtin .append, as, ts⟩ := by
    unfold appM at hm
    split at hm
    · exact ⟨_, _, by assumption⟩
    · simp only [Bool.not_eq_true'] at hm; exact absurd hm hmu
  obtain ⟨as, ts, ho⟩ := hop
  simp only [outOf, callOf, cloOf, ho, opV] at h
  split at h
  · rename_i x y T T' d ha ht hd
    simp only [Bool.cond_eq_ite] at h
    split at h
    · unfold vApp at h
      simp only [Bool.cond_eq_ite] at h
      split at h
      · cases h
      · split at h
        · cases h
        · split at h
          · rename_i hfr
            split at h
            · rename_i nm l s1 l' s2 hd1 _
              simp only [Option.some.injEq] at h; subst h
              simp only [Bool.and_eq_true] at hfr
              intro m z hmz
              simp only [List.mem_cons, Prod.mk.injEq] at hmz
              rcases hmz with ⟨rfl, _⟩ | hmz
              · exact .inl ⟨⟨_, hd, .inl rfl⟩, hfr.2⟩
              · right
                cases nm with
                | none => simp at hmz
                | some k =>
                  simp only [List.mem_singleton, Prod.mk.injEq] at hmz
                  obtain ⟨rfl, _⟩ := hmz
                  refine ⟨x, by rw [ho]; simp only [Op.operands, Call.operands]; rw [Array.mem_append]; right; rw [← Array.mem_toList_iff, ha]; simp, ?_⟩
                  unfold dstOf at hd1
                  split at hd1
                  · rename_i nm' o' m' n' hs
                    simp only [Bool.cond_eq_ite] at hd1
                    split at hd1
                    · split at hd1
                      · simp only [Option.some.injEq, Prod.mk.injEq] at hd1
                        obtain ⟨e1, _⟩ := hd1
                        subst e1
                        exact refs_sp (by rw [hs]; simp [AV.refs])
                      · cases hd1
                    · cases hd1
                  · simp at hd1
                  · cases hd1
            · cases h
          · cases h
    · cases h
  · cases h

theorem stepD_nm {n : Nat} {x y : Oper} {σ1 σ2 : St} {p q : Prop} {i j : Nat} {Nx Ny : List Nat} (hn : n ≤ 10000) (hx : inB n x.dst = true) (hy : inB n y.dst = true) (hap : x.apart ops y = true)
    (hi : bOf B i = some Nx) (hj : bOf B j = some Ny) (hdis : ∀ k ∈ Nx, k ∉ Ny) (mx : appM x = true) (my : appM y = true) (ox : nmOk P B x i σ.e) (oy : nmOk P B y j σ1.e)
    (h1 : stepD P Γ ops.toList fz x σ = some (σ1, p)) (h2 : stepD P Γ ops.toList fz y σ1 = some (σ2, q)) :
    ∃ σ1' σ2', stepD P Γ ops.toList fz y σ = some (σ1', q) ∧ stepD P Γ ops.toList fz x σ1' = some (σ2', p) ∧ Eqv σ2 σ2' ∧ nmOk P B y j σ.e ∧ nmOk P B x i σ1'.e := by
  obtain ⟨a1, a2, a3⟩ := Oper.apart_spec hap
  obtain ⟨g, u, e1, e2, rfl, rfl⟩ := stepD_spec h1
  obtain ⟨g', u', f1, f2, rfl, rfl⟩ := stepD_spec h2
  obtain ⟨ou, eo, eav, ehp, _⟩ := outD_some e2
  obtain ⟨ou', fo, fav, fhp, _⟩ := outD_some f2
  have hop : ∀ z ∈ y.op.operands, opnd (putA x.dst (wr x g u.av) σ.e) z = opnd σ.e z := fun z hz => opnd_congr z fun s hs => by
    rw [get_putA, if_neg fun hd => a1 s hd (mem_looks hz hs)]
  have oy' : nmOk P B y j σ.e := nmOk_congr hop oy
  have rx := nmOk_mem hi ox
  have ry := nmOk_mem hj oy'
  have f1' : gOf ops.toList σ.e y = some g' := by
    rw [← f1]
    refine gOf_congr fun j want oj s k1 k2 k3 => ?_
    rw [get_putA, if_neg fun hd => a1 s hd (guard_looks k1 k2 k3)]
  have hxn : ∀ k, (∀ z, (k, z) ∉ u.hp) ∨ (isNm x k ∧ fresh k σ = true) ∨ ∃ z ∈ x.op.operands, (opnd σ.e z).refs k = true := by
    intro k
    by_cases hh : ∀ z, (k, z) ∉ u.hp
    · exact .inl hh
    · simp only [Classical.not_forall, Classical.not_not] at hh
      obtain ⟨z, hz⟩ := hh
      rw [ehp] at hz
      exact .inr (outOf_names2 eo mx k z hz)
  have f2' : outD P Γ fz y g' σ = some u' := by
    refine outD_local (σ := ⟨putA x.dst (wr x g u.av) σ.e, hw x g u.hp ++ σ.h⟩) hop (fun ht z hz k hk => ?_) (fun ht k _ hf => ?_) f2
    · simp only [hop z hz] at hk
      rcases hxn k with hh | ⟨_, hh⟩ | ⟨z', hz', hr⟩
      · exact geth_app (hw_mem hh)
      · rw [fresh_opnd hh] at hk; cases hk
      · exact absurd (ry z hz k hk) (hdis k (rx z' hz' k hr))
    · rw [fresh_put, Bool.and_eq_true] at hf
      exact hf.2
  have hyn : ∀ k, (∀ z, (k, z) ∉ u'.hp) ∨ (isNm y k ∧ fresh k σ = true) ∨ ∃ z ∈ y.op.operands, (opnd σ.e z).refs k = true := by
    intro k
    by_cases hh : ∀ z, (k, z) ∉ u'.hp
    · exact .inl hh
    · simp only [Classical.not_forall, Classical.not_not] at hh
      obtain ⟨z, hz⟩ := hh
      rw [fhp] at hz
      rcases outOf_names2 fo my k z hz with ⟨q1, q2⟩ | ⟨z', hz', hr⟩
      · rw [fresh_put, Bool.and_eq_true] at q2
        exact .inr (.inl ⟨q1, q2.2⟩)
      · simp only [hop z' hz'] at hr
        exact .inr (.inr ⟨z', hz', hr⟩)
  obtain ⟨ou2, fo2, fav2, fhp2, _⟩ := outD_some f2'
  have e1' : gOf ops.toList (putA y.dst (wr y g' u'.av) σ.e) x = some g := by
    rw [← e1]
    refine gOf_congr fun j want oj s k1 k2 k3 => ?_
    rw [get_putA, if_neg fun hd => a3 s hd (guard_looks k1 k2 k3)]
  have hop' : ∀ z ∈ x.op.operands, opnd σ.e z = opnd (putA y.dst (wr y g' u'.av) σ.e) z := fun z hz => opnd_congr z fun s hs => by
    rw [get_putA, if_neg fun hd => a3 s hd (mem_looks hz hs)]
  have e2' : outD P Γ fz x g ⟨putA y.dst (wr y g' u'.av) σ.e, hw y g' u'.hp ++ σ.h⟩ = some u := by
    refine outD_local (σ := σ) hop' (fun ht z hz k hk => ?_) (fun ht k hk hf => ?_) e2
    · rcases hyn k with hh | ⟨_, hh⟩ | ⟨z', hz', hr⟩
      · exact (geth_app (hw_mem hh)).symm
      · rw [fresh_opnd hh] at hk; cases hk
      · exact absurd (ry z' hz' k hr) (hdis k (rx z hz k hk))
    · rw [fresh_put]
      obtain ⟨r1, r2⟩ := outOf_refs fo2 hf (fun hk' => nm_apart hn hx hy a2 hk hk')
      rw [wr_refs, hw_free, fav2, r1, fhp2, r2]
      simpa using hf
  refine ⟨_, _, stepD_mk f1' f2', stepD_mk e1' e2', ⟨fun s => ?_, fun k => ?_, fun k => ?_⟩, oy', nmOk_congr hop' ox⟩
  · simp only [get_putA]
    by_cases hs : y.dst = some s
    · have : x.dst ≠ some s := fun hd => a2 s hd hs
      simp [hs, this]
    · simp [hs]
  · -- the names of the two are different
    have key : (∀ z, (k, z) ∉ u.hp) ∨ (∀ z, (k, z) ∉ u'.hp) := by
      rcases hxn k with hh | hh
      · exact .inl hh
      · rcases hyn k with hk | hk
        · exact .inr hk
        · exfalso
          rcases hh with ⟨q1, h1⟩ | ⟨z, hz, hr⟩
          · rcases hk with ⟨q2, h2⟩ | ⟨z', hz', hr'⟩
            · exact nm_apart hn hx hy a2 q1 q2
            · rw [fresh_opnd h1] at hr'; cases hr'
          · rcases hk with ⟨q2, h2⟩ | ⟨z', hz', hr'⟩
            · rw [fresh_opnd h2] at hr; cases hr
            · exact hdis k (rx z hz k hr) (ry z' hz' k hr')
    simp only
    rcases key with hh | hh
    · rw [geth_app (hw_mem hh)]
      exact geth_app_congr (geth_app (hw_mem hh)) _
    · rw [geth_app (hw_mem hh)]
      exact (geth_app_congr (geth_app (hw_mem hh)) _).symm
  · simp only [fresh_put]
    ac_rfl
end
def sepB (B : List (Nat × List Nat)) (i j : Nat) : Bool := match bOf B i, bOf B j with
  | some l, some l' => l.all fun k => !l'.contains k
  | _, _ => false
def okPairB (ops : Array Oper) (A : List (Nat × List Nat)) (i j : Nat) (x y : Oper) : Bool := okPair ops x y || (x.apart ops y && (appM x && appM y && sepB A i j))
def LxB (P : Program) (Γ : FuncId → List D → RV) (ops : Array Oper) (fz : List Nat) (A : List (Nat × List Nat)) : List Nat → St → St → Prop
  | [], σ, τ => τ = σ
  | i :: l, σ, τ => ∃ o σ' p, ops[i]? = some o ∧ stepD P Γ ops.toList fz o σ = some (σ', p) ∧ p ∧ nmOk P A o i σ.e ∧ LxB P Γ ops fz A l σ' τ
def stepQB (P : Program) (Γ : FuncId → List D → RV) (A : List (Nat × List Nat)) (L : List Oper) (fz : List Nat) (k : Nat) (o : Oper) (r : Rn) : Option Rn :=
  match stepQ P Γ L fz o r with
  | some r' => some ⟨r'.σ, (true, nmOk P A o k r.σ.e) :: r'.its⟩
  | none => none
def runQB (P : Program) (Γ : FuncId → List D → RV) (A : List (Nat × List Nat)) (L : List Oper) (fz : List Nat) : Nat → List Oper → Option Rn → Option Rn
  | _, _, none => none
  | _, [], some r => some r
  | k, o :: os, some r => runQB P Γ A L fz (k + 1) os (stepQB P Γ A L fz k o r)
def chkIB (ops : Array Oper) (A : List (Nat × List Nat)) (m : List Nat) (i : Nat) (oi : Oper) : Bool :=
  (edg oi).all (fun t => decide (t < i)) && (List.range i).all fun j =>
    bif (m.getD i 0).testBit j then (edg oi).any (fun t => t == j || (decide (j < t) && (m.getD t 0).testBit j))
    else match ops[j]? with
      | some oj => okPairB ops A j i oj oi
      | none => true
def chkDB (n : Nat) (ops : Array Oper) (A : List (Nat × List Nat)) (m : List Nat) : Bool :=
  decide (n ≤ 10000) && ops.toList.all (fun o => inB n o.dst) && (List.range ops.size).all fun i => match ops[i]? with
    | some oi => chkIB ops A m i oi
    | none => true

section
variable {P : Program} {Γ : FuncId → List D → RV} {fz : List Nat} {L : List Oper} {σ σ' : St} {o : Oper} {g : Bool} {ops : Array Oper} {A : List (Nat × List Nat)}
theorem runQB_none : ∀ {os : List Oper} {k : Nat}, runQB P Γ A L fz k os none = none
  | [], _ => rfl
  | _ :: _, _ => rfl
theorem runQB_Lx {K : St → Prop} : ∀ (os : List Oper) (k : Nat) (r : Rn), ops.toList.drop k = os → Hold (runQB P Γ A ops.toList fz k os (some r)) K →
    fin r.its (∃ τ, LxB P Γ ops fz A (List.range' k os.length) r.σ τ ∧ K τ)
  | [], k, r, _, h => by
    simp only [runQB, Hold] at h
    exact fin_mono (fun hK => ⟨_, rfl, hK⟩) h
  | o :: os, k, r, hk, h => by
    simp only [runQB, stepQB] at h
    cases hs : stepQ P Γ ops.toList fz o r with
    | none => simp only [hs] at h; rw [runQB_none] at h; exact h.elim
    | some r' =>
      simp only [hs] at h
      obtain ⟨p, hD, q, hi, hqp⟩ := stepQ_D hs
      have hk' : ops.toList.drop (k + 1) = os := by rw [← List.drop_drop, hk]; rfl
      have ho : ops[k]? = some o := by
        have := congrArg (·[0]?) hk
        simpa using this
      have ih := runQB_Lx os (k + 1) ⟨r'.σ, (true, nmOk P A o k r.σ.e) :: r'.its⟩ hk' h
      simp only [hi, fin] at ih
      refine fin_mono (fun hh => ?_) ih
      obtain ⟨hq, hA, τ, hl, hK⟩ := hh
      exact ⟨τ, by simp only [List.length_cons, List.range'_succ, LxB]; exact ⟨o, r'.σ, p, ho, hD, hqp hq, hA, hl⟩, hK⟩
theorem Lx_congrB {τ : St} : ∀ {l : List Nat} {σ σ' : St}, Eqv σ σ' → LxB P Γ ops fz A l σ τ → ∃ τ', Eqv τ τ' ∧ LxB P Γ ops fz A l σ' τ'
  | [], σ, σ', hE, h => by simp only [LxB] at h; subst h; exact ⟨σ', hE, rfl⟩
  | i :: l, σ, σ', hE, h => by
    simp only [LxB] at h
    obtain ⟨o, σ1, p, ho, hs, hp, hA, hl⟩ := h
    obtain ⟨σ1', hs', hE'⟩ := stepD_congr hE hs
    obtain ⟨τ', h1, h2⟩ := Lx_congrB hE' hl
    exact ⟨τ', h1, o, σ1', p, ho, hs', hp, nmOk_congr (fun z _ => opnd_congr z fun s _ => hE.e s) hA, h2⟩
theorem Lx_takeB {n : Nat} {τ : St} {i : Nat} {oi : Oper} {post : List Nat} (hn : n ≤ 10000) (hin : ∀ (j : Nat) (o : Oper), ops[j]? = some o → inB n o.dst = true) (hi : ops[i]? = some oi) :
    ∀ {pre : List Nat} {σ : St}, (∀ j ∈ pre, ∀ oj, ops[j]? = some oj → okPairB ops A j i oj oi = true) → LxB P Γ ops fz A (pre ++ i :: post) σ τ →
      ∃ σ' p τ', stepD P Γ ops.toList fz oi σ = some (σ', p) ∧ p ∧ nmOk P A oi i σ.e ∧ Eqv τ τ' ∧ LxB P Γ ops fz A (pre ++ post) σ' τ'
  | [], σ, _, h => by
    simp only [List.nil_append, LxB] at h
    obtain ⟨o, σ', p, ho, hs, hp, hA, hl⟩ := h
    rw [hi] at ho; cases ho
    exact ⟨σ', p, τ, hs, hp, hA, .refl _, hl⟩
  | j :: pre, σ, hok, h => by
    simp only [List.cons_append, LxB] at h
    obtain ⟨o, σ1, q, ho, hs, hq, hAj, hl⟩ := h
    obtain ⟨σ2, p, τ', h1, h2, hAi, h3, h4⟩ := Lx_takeB hn hin hi (pre := pre) (fun j hj => hok j (by simp [hj])) hl
    have hpair := hok j (by simp) o ho
    simp only [okPairB, Bool.or_eq_true] at hpair
    rcases hpair with hpair | hpair
    · obtain ⟨σ1', σ2', c1, c2, c3⟩ := stepD_comm hn (hin _ _ ho) (hin _ _ hi) hpair hs h1
      obtain ⟨τ'', d1, d2⟩ := Lx_congrB c3 h4
      obtain ⟨a1, a2, a3⟩ := Oper.apart_spec (okPair_apart hpair)
      obtain ⟨g1, u1, _, _, e1, _⟩ := stepD_spec hs
      obtain ⟨g2, u2, _, _, e2, _⟩ := stepD_spec c1
      have k1 : nmOk P A oi i σ.e := nmOk_congr (fun z hz => by
        rw [e1]; exact opnd_congr z fun s hs => by simp only; rw [get_putA, if_neg fun hd => a1 s hd (mem_looks hz hs)]) hAi
      have k2 : nmOk P A o j σ1'.e := nmOk_congr (fun z hz => by
        rw [e2]; exact opnd_congr z fun s hs => by simp only; rw [get_putA, if_neg fun hd => a3 s hd (mem_looks hz hs)]) hAj
      exact ⟨σ1', p, τ'', c1, h2, k1, h3.trans d1, by simp only [List.cons_append, LxB]; exact ⟨o, σ2', q, ho, c2, hq, k2, d2⟩⟩
    · simp only [Bool.and_eq_true] at hpair
      obtain ⟨hap, ⟨mx, my⟩, hsep⟩ := hpair
      unfold sepB at hsep
      split at hsep
      · rename_i Nx Ny hA1 hA2
        have hdis : ∀ k ∈ Nx, k ∉ Ny := fun k hk hk' => by
          have := List.all_eq_true.1 hsep k hk
          simp [hk'] at this
        obtain ⟨σ1', σ2', c1, c3, c5, c6, c7⟩ := stepD_nm hn (hin _ _ ho) (hin _ _ hi) hap hA1 hA2 hdis mx my hAj hAi hs h1
        obtain ⟨τ'', d1, d2⟩ := Lx_congrB c5 h4
        exact ⟨σ1', p, τ'', c1, h2, c6, h3.trans d1, by simp only [List.cons_append, LxB]; exact ⟨o, σ2', q, ho, c3, hq, c7, d2⟩⟩
      · cases hsep
end

section
variable {n : Nat} {ops : Array Oper} {A : List (Nat × List Nat)} {m : List Nat} {listed : Array Bool}

theorem chkDB_spec (h : chkDB n ops A m = true) : n ≤ 10000 ∧ (∀ (j : Nat) (o : Oper), ops[j]? = some o → inB n o.dst = true) ∧
    ∀ (i : Nat) (oi : Oper), ops[i]? = some oi → (∀ t ∈ edg oi, t < i) ∧ ∀ j, j < i → ((m.getD i 0).testBit j = true ∧ ∃ t ∈ edg oi, t = j ∨ (j < t ∧ (m.getD t 0).testBit j = true)) ∨
      ((m.getD i 0).testBit j = false ∧ ∀ oj, ops[j]? = some oj → okPairB ops A j i oj oi = true) := by
  simp only [chkDB, Bool.and_eq_true, decide_eq_true_eq, List.all_eq_true, List.mem_range] at h
  obtain ⟨⟨h1, h2⟩, h3⟩ := h
  refine ⟨h1, fun j o hj => h2 o (Array.mem_toList_iff.2 (Array.mem_of_getElem? hj)), fun i oi hi => ?_⟩
  have := h3 i (Array.getElem?_eq_some_iff.1 hi).1
  simp only [hi, chkIB, Bool.and_eq_true, List.all_eq_true, decide_eq_true_eq, List.mem_range] at this
  refine ⟨this.1, fun j hj => ?_⟩
  have h4 := this.2 j hj
  cases hb : (m.getD i 0).testBit j
  · right
    rw [hb, cond_false] at h4
    exact ⟨rfl, fun oj hoj => by simpa [hoj] using h4⟩
  · left
    rw [hb, cond_true] at h4
    simp only [List.any_eq_true, Bool.or_eq_true, beq_iff_eq, Bool.and_eq_true, decide_eq_true_eq] at h4
    exact ⟨rfl, h4⟩

theorem mask_listedB (h : chkDB n ops A m = true) (hcl : ∀ (i : Nat) (o : Oper), ops[i]? = some o → listed.getD i false = true → ∀ t ∈ edg o, listed.getD t false = true) :
    ∀ (i : Nat) (oi : Oper), ops[i]? = some oi → (∀ t ∈ edg oi, listed.getD t false = true) → ∀ j, j < i → (m.getD i 0).testBit j = true → listed.getD j false = true := by
  intro i
  induction i using Nat.strongRecOn with
  | _ i ih =>
    intro oi hi hall j hj hb
    obtain ⟨_, _, hs⟩ := chkDB_spec h
    obtain ⟨hlt, hs⟩ := hs i oi hi
    rcases hs j hj with ⟨_, t, ht, rfl | ⟨hjt, htb⟩⟩ | ⟨hb', _⟩
    · exact hall t ht
    · have htl := hall t ht
      have hti := hlt t ht
      have hts : t < ops.size := Nat.lt_trans hti (Array.getElem?_eq_some_iff.1 hi).1
      exact ih t hti _ (Array.getElem?_eq_getElem hts) (hcl t _ (Array.getElem?_eq_getElem hts) htl) j hjt htb
    · rw [hb] at hb'; cases hb'

end

section
variable {C : Ctx} {Γ : FuncId → List D → RV} {fz : List Nat} {ops : Array Oper} {A : List (Nat × List Nat)} {m : List Nat}

theorem any_soundB {τ : St} {Q : Exit → Act → World → Prop} (hc : chkDB C.n ops A m = true) (hQ : ∀ a w, Sim C τ a w → Q .normal a w) :
    ∀ (fuel : Nat) (listed : Array Bool) (rem : List Nat) (σ τ' : St) (a : Act) (w : World), listed.size = ops.size → (∀ i, i ∈ rem ↔ i < ops.size ∧ listed.getD i true = false) → rem.Pairwise (· < ·) → rem.length ≤ fuel →
      (∀ (i : Nat) (o : Oper), ops[i]? = some o → listed.getD i false = true → ∀ t ∈ edg o, listed.getD t false = true) →
      LxB C.P Γ ops fz A rem σ τ' → Eqv τ' τ → Sim C σ a w → wpAny C.P .any ops Q fuel listed a w := by
  obtain ⟨hn, hin, hpair⟩ := chkDB_spec hc
  intro fuel
  induction fuel with
  | zero =>
    intro listed rem σ τ' a w hsz hrem hsrt hlen hcl hl hE S
    have hr : rem = [] := List.eq_nil_of_length_eq_zero (Nat.le_zero.1 hlen)
    subst hr
    simp only [LxB] at hl; subst hl
    refine ⟨?_, hQ _ _ (hE.sim S)⟩
    refine List.eq_nil_iff_forall_not_mem.2 fun i hi => ?_
    obtain ⟨h0, o, ho, _⟩ := mem_ready.1 hi
    exact absurd ((hrem i).2 ⟨(Array.getElem?_eq_some_iff.1 ho).1, h0⟩) (by simp)
  | succ fuel ih =>
    intro listed rem σ τ' a w hsz hrem hsrt hlen hcl hl hE S
    refine ⟨fun hnone => ?_, fun i hi => ?_⟩
    · cases rem with
      | nil => simp only [LxB] at hl; subst hl; exact hQ _ _ (hE.sim S)
      | cons i rest =>
        exfalso
        have hi := (hrem i).1 (by simp)
        have hr : i ∈ Region.ready .any ops listed := by
          refine mem_ready.2 ⟨hi.2, _, Array.getElem?_eq_getElem hi.1, fun e he hb => ?_⟩
          have hlt := (hpair i _ (Array.getElem?_eq_getElem hi.1)).1 e.on (mem_edg.2 ⟨e, he, hb, rfl⟩)
          have hnot : e.on ∉ i :: rest := fun hm => by
            simp only [List.mem_cons] at hm
            rcases hm with hm | hm
            · omega
            · have := (List.pairwise_cons.1 hsrt).1 _ hm; omega
          have hos : e.on < ops.size := Nat.lt_trans hlt hi.1
          rw [← getD_tf (by omega)]
          cases hb' : listed.getD e.on true
          · exact absurd ((hrem e.on).2 ⟨hos, hb'⟩) hnot
          · rfl
        rw [hnone] at hr; cases hr
    · obtain ⟨h0, oi, hoi, hedge⟩ := mem_ready.1 hi
      have his : i < ops.size := (Array.getElem?_eq_some_iff.1 hoi).1
      obtain ⟨pre, post, rfl⟩ := List.append_of_mem ((hrem i).2 ⟨his, h0⟩)
      have hlist : ∀ t ∈ edg oi, listed.getD t false = true := fun t ht => by
        obtain ⟨e, h1, h2, rfl⟩ := mem_edg.1 ht
        exact hedge e h1 h2
      rw [List.pairwise_append] at hsrt
      obtain ⟨s1, s2, s3⟩ := hsrt
      have hok : ∀ j ∈ pre, ∀ oj, ops[j]? = some oj → okPairB ops A j i oj oi = true := fun j hj oj hoj => by
        have hji := s3 j hj i (by simp)
        rcases (hpair i oi hoi).2 j hji with ⟨hb, _⟩ | ⟨_, hb⟩
        · have h1 := mask_listedB hc hcl i oi hoi hlist j hji hb
          have h2 := ((hrem j).1 (by simp [hj])).2
          rw [getD_tf (getD_true_lt h2)] at h2
          rw [h2] at h1; cases h1
        · exact hb oj hoj
      obtain ⟨σ1, p, τ'', hs, hp, _, hE', hl'⟩ := Lx_takeB hn hin hoi hok hl
      unfold wpOp
      simp only [hoi]
      have hrem' : ∀ k, k ∈ pre ++ post ↔ k < ops.size ∧ (listed.setIfInBounds i true).getD k true = false := by
        intro k
        have hne : k ∈ pre ++ post → k ≠ i := by
          intro hk
          simp only [List.mem_append] at hk
          rcases hk with hk | hk
          · have := s3 k hk i (by simp); omega
          · have := (List.pairwise_cons.1 s2).1 k hk; omega
        by_cases hki : k = i
        · subst hki
          refine ⟨fun hk => absurd rfl (hne hk), fun hk => ?_⟩
          have := hk.2
          have hlt : k < listed.size := by omega
          simp [hlt] at this
        · rw [getD_set_ne true (Ne.symm hki), ← hrem k]
          simp [hki]
      have hcl' : ∀ (k : Nat) (o : Oper), ops[k]? = some o → (listed.setIfInBounds i true).getD k false = true → ∀ t ∈ edg o, (listed.setIfInBounds i true).getD t false = true := by
        intro k o hk hlk t ht
        by_cases hki : k = i
        · subst hki
          rw [hoi] at hk; cases hk
          exact getD_set_true (hlist t ht)
        · rw [getD_set_ne false (Ne.symm hki)] at hlk
          exact getD_set_true (hcl k o hk hlk t ht)
      have hsrt' : (pre ++ post).Pairwise (· < ·) := List.pairwise_append.2 ⟨s1, (List.pairwise_cons.1 s2).2, fun x hx y hy => s3 x hx y (by simp [hy])⟩
      have hlen' : (pre ++ post).length ≤ fuel := by simp only [List.length_append, List.length_cons] at hlen ⊢; omega
      have h3 := stepD_sound (hin i oi hoi) hs hp S (wpAny C.P .any ops Q fuel (listed.setIfInBounds i true)) Q (fun a' w' S' =>
        ih (listed.setIfInBounds i true) (pre ++ post) σ1 τ'' a' w' (by simpa using hsz) hrem' hsrt' hlen' hcl' hl' (hE'.symm.trans hE) S')
      split
      · rename_i hw; rw [if_pos hw] at h3; exact .inl h3
      · rename_i hw; rw [if_neg hw] at h3; exact h3

theorem WB_drawA {K R : St → Prop} {E : Nat → St → Prop} {σ : St} {id : Nat} (Γ : FuncId → List D → RV) (A : List (Nat × List Nat)) (fz V : List Nat) (hm : C.P.follows .mixedOrders = true) (hc : chkDB C.n ops A (mkM ops.toList []) = true)
    (h : Hold (runQB C.P Γ A ops.toList fz 0 ops.toList (some ⟨σ, []⟩)) (fun σ' => K (gather V σ'))) : WA C (.region id ops true) K R E σ := by
  unfold WA
  intro a w S
  obtain ⟨τ, hl, hK⟩ := runQB_Lx (ops := ops) ops.toList 0 ⟨σ, []⟩ (by simp) h
  refine wp_region_any hm ?_
  have S' : Sim C σ a { w with drawn := w.drawn + 1 } := by
    obtain ⟨ι, S⟩ := S
    exact ⟨ι, S.grow rfl rfl rfl (Nat.le_refl _) fun _ _ => rfl⟩
  refine any_soundB (C := C) (τ := τ) hc (fun a w S => ⟨_, hK, S.gather V⟩) ops.size _ (List.range' 0 ops.toList.length) σ τ a _ (by simp) (fun i => ?_) ?_ (by simp) (fun i o hi hlst => ?_) hl (.refl _) S'
  · simp only [List.mem_range'_1, Array.length_toList]
    constructor
    · rintro ⟨_, h⟩
      have h' : i < ops.size := by omega
      exact ⟨h', by simp [h']⟩
    · rintro ⟨h, _⟩; omega
  · exact List.pairwise_lt_range'
  · have hlt := (Array.getElem?_eq_some_iff.1 hi).1
    simp [hlt] at hlst

end
section
variable {C : Ctx} {K R : St → Prop} {E : Nat → St → Prop} {σ : St}
theorem V_drawB {id : Nat} {ops : Array Oper} (Γ : FuncId → List D → RV) (A : List (Nat × List Nat)) (fz V : List Nat) (hm : C.P.follows .mixedOrders = true) (hc : chkDB C.n ops A (mkM ops.toList []) = true)
    (h : Ev (Hold (runQB C.P Γ A ops.toList fz 0 ops.toList (some ⟨σ, []⟩)) (fun σ' => K (gather V σ')))) : WA C (.region id ops true) K R E σ := WB_drawA Γ A fz V hm hc h.out
end
end Go.Eng

set_option linter.unusedSimpArgs false
set_option linter.unusedVariables false
namespace Go.Eng
open Go.RowKit

def vCmpN (P : Program) (op : BinOp) (T : Nat) (g : Bool) (x y : AV) : Option Out :=
  match elOf P T, sp x, sp y with
  | some _, .vw _ _ m _, .dat (.v (.slice none 0 0)) => match notIf op false with
    | some r => some ⟨.dat (.b r), [], pk g x ∧ pk g y ∧ 0 < m, True⟩
    | none => none
  | some _, .dat (.v (.slice a _ _)), .dat (.v (.slice none 0 0)) => match notIf op a.isNone with
    | some r => some ⟨.dat (.b r), [], pk g x ∧ pk g y, True⟩
    | none => none
  | some _, .dat (.sl _ l), .dat (.v (.slice none 0 0)) => match notIf op false with
    | some r => some ⟨.dat (.b r), [], pk g x ∧ pk g y ∧ 0 < l.length, True⟩
    | none => none
  | _, _, _ => none
def outYN (P : Program) (Δ : FuncId → List AV → Hp → Option (List PX × RV)) (o : Oper) (g : Bool) (σ : St) : Option Out :=
  match o.op with
  | .binOp op T x y _ => vCmpN P op T g (opnd σ.e x) (opnd σ.e y)
  | _ => outY P Δ o g σ

section
variable {C : Ctx} {σ : St} {o : Oper} {g : Bool}
theorem run_eqGuard_sl {P : Program} (w : World) (op : BinOp) (T : Nat) (x y : Operand) (a b : Option Addr) (n c n' c' : Nat) : (eqGuard op T x y (.slice a n c) (.slice b n' c')).run P w = .ok () w := by
  unfold eqGuard
  cases op <;> rfl
theorem run_equalIn_sl {P : Program} (w : World) (d : Nat) (t e : TypeId) (a : Option Addr) (n c n' c' : Nat) (h : P.underlying t = some (.slice e)) :
    (Op.equalIn (d + 1) t (.slice a n c) (.slice none n' c')).run P w = .ok a.isNone w := by
  cases a <;> simp [Op.equalIn, run_underlying h]
theorem elOf_under {P : Program} {T e : Nat} (h : elOf P T = some e) : P.underlying T = some (.slice e) := by
  unfold elOf at h
  split at h
  · simp only [Option.some.injEq] at h; subst h; assumption
  · cases h
theorem snd_cmpN {op : BinOp} {T T' : Nat} {x y : Operand} {out : Out} (ho : o.op = .binOp op T x y T') (h : vCmpN C.P op T g (opnd σ.e x) (opnd σ.e y) = some out) : Snd C o g σ out := by
  unfold vCmpN at h
  split at h
  · rename_i e nm oo m n he hx hy
    split at h
    · rename_i r hr
      simp only [Option.some.injEq] at h; subst h
      refine Snd.pure fun ι a w S hg hs => ?_
      obtain ⟨p1, p2, hm⟩ := hs
      have ex := S.sopnd hg x p1
      have ey := S.sopnd hg y p2
      rw [hx] at ex; rw [hy] at ey
      simp only [RepA, RepD] at ex ey
      rcases ex with ⟨_, _, _, h0⟩ | ⟨b, c, _, ex, _⟩
      · omega
      · refine ⟨.bool r, ?_, trivial, by simp only [RepA, RepD]⟩
        have hq := run_equalIn_sl (P := C.P) w 9999 T e (some ⟨b, oo * n, none⟩) m (c - oo) 0 0 (elOf_under he)
        cases op <;> simp only [notIf, Option.some.injEq, reduceCtorEq] at hr <;> subst hr <;> simp [execOp, ho, ex, ey, run_eqGuard_sl, binOp, Op.equal, Op.maxDepth, hq]
    · cases h
  · rename_i e va vn vc he hx hy
    split at h
    · rename_i r hr
      simp only [Option.some.injEq] at h; subst h
      refine Snd.pure fun ι a w S hg hs => ?_
      have ex := S.sopnd hg x hs.1
      have ey := S.sopnd hg y hs.2
      rw [hx] at ex; rw [hy] at ey
      simp only [RepA, RepD] at ex ey
      refine ⟨.bool r, ?_, trivial, by simp only [RepA, RepD]⟩
      have hq := run_equalIn_sl (P := C.P) w 9999 T e va vn vc 0 0 (elOf_under he)
      cases op <;> simp only [notIf, Option.some.injEq, reduceCtorEq] at hr <;> subst hr <;> simp [execOp, ho, ex, ey, run_eqGuard_sl, binOp, Op.equal, Op.maxDepth, hq]
    · cases h
  · rename_i e n l he hx hy
    split at h
    · rename_i r hr
      simp only [Option.some.injEq] at h; subst h
      refine Snd.pure fun ι a w S hg hs => ?_
      obtain ⟨p1, p2, hm⟩ := hs
      have ex := S.sopnd hg x p1
      have ey := S.sopnd hg y p2
      rw [hx] at ex; rw [hy] at ey
      simp only [RepA, RepD] at ex ey
      obtain ⟨_, ex⟩ := ex
      rcases ex with ⟨rfl, _⟩ | ⟨b, oo, cap, vs, ex, _⟩
      · simp at hm
      · refine ⟨.bool r, ?_, trivial, by simp only [RepA, RepD]⟩
        have hq := run_equalIn_sl (P := C.P) w 9999 T e (some ⟨b, oo, none⟩) l.length cap 0 0 (elOf_under he)
        cases op <;> simp only [notIf, Option.some.injEq, reduceCtorEq] at hr <;> subst hr <;> simp [execOp, ho, ex, ey, run_eqGuard_sl, binOp, Op.equal, Op.maxDepth, hq]
    · cases h
  · cases h
theorem outYN_snd {Δ : FuncId → List AV → Hp → Option (List PX × RV)} {out : Out} (h : outYN C.P Δ o g σ = some out) : SndW C o g σ out := by
  unfold outYN at h
  split at h
  · rename_i ho; exact (snd_cmpN ho h).toW
  · exact outY_snd h

def outZN (P : Program) (Γ : FuncId → List D → RV) (Δ : FuncId → List AV → Hp → Option (List PX × RV)) (fz : List Nat) (o : Oper) (g : Bool) (σ : St) : Option Out :=
  match outYN P Δ o g σ with
  | some out => some out
  | none => outOf P Γ fz o g σ

def stepXN (P : Program) (Γ : FuncId → List D → RV) (Δ : FuncId → List AV → Hp → Option (List PX × RV)) (n : Nat) (L : List Oper) (fz : List Nat) (o : Oper) (r : Rn) : Option Rn :=
  bif inB n o.dst then (match o.guard with
    | none => match outZN P Γ Δ fz o true r.σ with
      | some out => some ⟨⟨putA o.dst out.av r.σ.e, out.hp ++ r.σ.h⟩, (false, out.know) :: (true, out.side) :: r.its⟩
      | none => none
    | some (j, want) => match gval L r.σ.e j want with
      | some g => match outZN P Γ Δ fz o g r.σ with
        | some out => some ⟨⟨putA o.dst (.gd g out.av) r.σ.e, hg g out.hp ++ r.σ.h⟩, (false, g = true → out.know) :: (true, g = true → out.side) :: r.its⟩
        | none => none
      | none => none) else none
def runXN (P : Program) (Γ : FuncId → List D → RV) (Δ : FuncId → List AV → Hp → Option (List PX × RV)) (n : Nat) (L : List Oper) (fz : List Nat) : List Oper → Option Rn → Option Rn
  | _, none => none
  | [], some r => some r
  | o :: os, some r => runXN P Γ Δ n L fz os (stepXN P Γ Δ n L fz o r)

theorem outZN_snd {Γ : FuncId → List D → RV} {Δ : FuncId → List AV → Hp → Option (List PX × RV)} {fz : List Nat} {out : Out} (h : outZN C.P Γ Δ fz o g σ = some out) : SndW C o g σ out := by
  unfold outZN at h
  split at h
  · rename_i out' h'
    simp only [Option.some.injEq] at h; subst h
    exact outYN_snd h'
  · exact outOf_snd h

theorem stepXN_sound {Γ : FuncId → List D → RV} {Δ : FuncId → List AV → Hp → Option (List PX × RV)} {L : List Oper} {fz : List Nat} {r r' : Rn} (h : stepXN C.P Γ Δ C.n L fz o r = some r') :
    ∃ its, r'.its = its ++ r.its ∧ ∀ (S' : Prop), fin its S' →
      ∀ ι a w, SimI C r.σ ι a w → ∀ (K : Act → World → Prop) (Q : Exit → Act → World → Prop), (S' → ∀ ι' a' w', SimI C r'.σ ι' a' w' → K a' w') →
        if Region.wanted o (yielded L.toArray a.tmps) then o.wp C.P a w K Q else K (a.put o.dst undef) w := by
  unfold stepXN at h
  cases hin : inB C.n o.dst
  · simp [hin] at h
  · simp only [hin, cond_true] at h
    have hput : ∀ {σ' : St} {ι' : Nat → Option (Nat × Nat)} {a : Act} {w' : World} {av : AV} {v : Value}, SimI C σ' ι' a w' → RepA (okOf C.F σ'.h ι' w') ι' w' av v → SimI C ⟨putA o.dst av σ'.e, σ'.h⟩ ι' (a.put o.dst v) w' := by
      intro σ' ι' a w' av v S hr
      cases hd : o.dst with
      | none => simpa only [putA, Act.put] using S
      | some d =>
        simp only [putA]
        refine S.put ?_ hr
        simpa [hd, inB] using hin
    split at h
    · rename_i hgd
      split at h
      · rename_i out ho
        simp only [Option.some.injEq] at h; subst h
        refine ⟨[(false, out.know), (true, out.side)], rfl, fun S' hS ι a w S K Q hK => ?_⟩
        simp only [fin] at hS
        have hw : Region.wanted o (yielded L.toArray a.tmps) = true := by simp [Region.wanted, hgd]
        rw [if_pos hw]
        exact outZN_snd ho ι a w S rfl hS.1 K Q (fun v w' ι' hk S1 hr => hK (hS.2 hk) ι' _ w' (hput (σ' := ⟨r.σ.e, out.hp ++ r.σ.h⟩) S1 hr))
      · cases h
    · rename_i j want hgd
      split at h
      · rename_i g hgv
        split at h
        · rename_i out ho
          simp only [Option.some.injEq] at h; subst h
          refine ⟨[(false, g = true → out.know), (true, g = true → out.side)], rfl, fun S' hS ι a w S K Q hK => ?_⟩
          simp only [fin] at hS
          rw [gval_rep S hgd hgv]
          cases g with
          | true =>
            simp only [if_true]
            refine outZN_snd ho ι a w S rfl (hS.1 rfl) K Q (fun v w' ι' hk S1 hr => hK (hS.2 (fun _ => hk)) ι' _ w' ?_)
            rw [hg_true]
            exact hput (σ' := ⟨r.σ.e, out.hp ++ r.σ.h⟩) S1 (by simp only [RepA]; exact ⟨(fun _ => hr), (fun h => by cases h)⟩)
          | false =>
            simp only [Bool.false_eq_true, if_false]
            refine hK (hS.2 (fun h => by cases h)) ι _ w ?_
            exact hput (σ' := ⟨r.σ.e, hg false out.hp ++ r.σ.h⟩) (hg_false (e := r.σ.e) (h := out.hp) (h0 := r.σ.h) S) (by simp only [RepA]; exact ⟨(fun h => by cases h), (fun _ => trivial)⟩)
        · cases h
      · cases h

theorem runXN_none {P : Program} {Γ : FuncId → List D → RV} {Δ : FuncId → List AV → Hp → Option (List PX × RV)} {n : Nat} {L : List Oper} {fz : List Nat} : ∀ {os : List Oper}, runXN P Γ Δ n L fz os none = none
  | [] => rfl
  | _ :: _ => rfl

theorem runXN_sound {Γ : FuncId → List D → RV} {Δ : FuncId → List AV → Hp → Option (List PX × RV)} {L : List Oper} {fz : List Nat} {K : St → Prop} {Q : Exit → Act → World → Prop} (hQ : ∀ σ a w, K σ → Sim C σ a w → Q .normal a w) :
    ∀ (os : List Oper) (k : Nat) (r : Rn), L.drop k = os → Hold (runXN C.P Γ Δ C.n L fz os (some r)) K → fin r.its (∀ ι a w, SimI C r.σ ι a w → wpOps C.P L.toArray Q (List.range' k os.length) a w)
  | [], k, r, hk, h => by
    simp only [runXN, Hold] at h
    refine fin_mono (fun hK ι a w S => ?_) h
    simp only [List.length_nil, List.range'_zero, wpOps]
    exact hQ _ a w hK ⟨ι, S⟩
  | o :: os, k, r, hk, h => by
    simp only [runXN] at h
    cases hs : stepXN C.P Γ Δ C.n L fz o r with
    | none => rw [hs, runXN_none] at h; exact h.elim
    | some r' =>
      rw [hs] at h
      obtain ⟨its, hi, hstep⟩ := stepXN_sound hs
      have hk' : L.drop (k + 1) = os := by rw [← List.drop_drop, hk]; rfl
      have ho : L[k]? = some o := by
        have := congrArg (·[0]?) hk
        simpa using this
      have ih := runXN_sound hQ os (k + 1) r' hk' h
      rw [hi] at ih
      refine fin_mono (fun hS ι a w S => ?_) (fin_append ih)
      simp only [List.length_cons, List.range'_succ, wpOps, List.getElem?_toArray, ho]
      have h1 := hstep _ hS ι a w S (wpOps C.P L.toArray Q (List.range' (k + 1) os.length)) Q (fun hh ι' a' w' S' => hh ι' a' w' S')
      split
      · rename_i hw; rw [if_pos hw] at h1; exact .inl h1
      · rename_i hw; rw [if_neg hw] at h1; exact h1

theorem WA_regionXN {K R : St → Prop} {E : Nat → St → Prop} {id : Nat} {ops : Array Oper} (Γ : FuncId → List D → RV) (Δ : FuncId → List AV → Hp → Option (List PX × RV)) (fz V : List Nat) (h : Hold (runXN C.P Γ Δ C.n ops.toList fz ops.toList (some ⟨σ, []⟩)) (fun σ' => K (gather V σ'))) : WA C (.region id ops false) K R E σ := by
  unfold WA
  intro a w S
  obtain ⟨ι, S⟩ := S
  have h1 := runXN_sound (C := C) (Q := QQ C K R E) (K := fun σ' => K (gather V σ')) (fun σ a w hk hs => ⟨_, hk, hs.gather V⟩) ops.toList 0 ⟨σ, []⟩ (by simp) h
  simp only [fin] at h1
  have h2 := h1 ι a w S
  refine wp_region ?_
  simpa [List.range_eq_range'] using h2
theorem V_regionXN {K R : St → Prop} {E : Nat → St → Prop} {id : Nat} {ops : Array Oper} (Γ : FuncId → List D → RV) (Δ : FuncId → List AV → Hp → Option (List PX × RV)) (fz V : List Nat) (h : Ev (Hold (runXN C.P Γ Δ C.n ops.toList fz ops.toList (some ⟨σ, []⟩)) (fun σ' => K (gather V σ')))) : WA C (.region id ops false) K R E σ := WA_regionXN Γ Δ fz V h.out

end
end Go.Eng

