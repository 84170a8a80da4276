import Derived.Test.YtgkflbibpkkegaaGreatDoorEE
import Derived.ProofKit
import Derived.SizedLaws
set_option linter.unusedSimpArgs false
set_option linter.unusedVariables false
set_option linter.unusedSimpArgs false
set_option linter.unusedVariables false
namespace Go.Eng
open Go.RowKit

mutual
def renA (ρ : Nat → Nat) : AV → AV
  | .un => .un
  | .dat d => .dat d
  | .agg l => .agg (renAs ρ l)
  | .tup l => .tup (renAs ρ l)
  | .rp l => .rp l
  | .pt nm o => .pt (ρ nm) o
  | .ep nm k f n => .ep (ρ nm) k f n
  | .vw nm o m n => .vw (ρ nm) o m n
  | .gd g x => .gd g (renA ρ x)
  | .pin u x => .pin u (renA ρ x)
  | .cl f l => .cl f (renAs ρ l)
  | .mp nm => .mp (ρ nm)
def renAs (ρ : Nat → Nat) : List AV → List AV
  | [] => []
  | a :: l => renA ρ a :: renAs ρ l
end
def renE (ρ : Nat → Nat) : Ent → Ent
  | .box T c => .box T (renAs ρ c)
  | .arr T n l => .arr T n l
  | .mp n l => .mp n l
  | .it n l cur => .it n l cur
def renH (ρ : Nat → Nat) : Hp → Hp
  | [] => []
  | (k, some (g, x)) :: l => (ρ k, some (g, renE ρ x)) :: renH ρ l
  | (k, none) :: l => renH ρ l
def lkr : List (Nat × Nat) → Nat → Nat
  | [], k => k
  | (j, x) :: l, k => bif j == k then x else lkr l k
section
variable {ok : Nat → Prop} {ι : Nat → Option (Nat × Nat)} {w : World} {ρ : Nat → Nat}
mutual
theorem renA_rep : ∀ (a : AV) (v : Value), RepA ok ι w (renA ρ a) v ↔ RepA ok (fun k => ι (ρ k)) w a v
  | .un, v => by simp only [renA, RepA]
  | .dat d, v => by simp only [renA, RepA]
  | .agg l, v => by simp only [renA, RepA, renAs_rep true l]
  | .tup l, v => by simp only [renA, RepA, renAs_rep false l]
  | .rp l, v => by simp only [renA, RepA]
  | .pt nm o, v => by simp only [renA, RepA]
  | .ep nm k f n, v => by simp only [renA, RepA]
  | .vw nm o m n, v => by simp only [renA, RepA]
  | .gd g x, v => by simp only [renA, RepA, renA_rep x]
  | .pin u x, v => by simp only [renA, RepA, renA_rep x]
  | .cl f l, v => by simp only [renA, RepA, renAs_rep false l]
  | .mp nm, v => by simp only [renA, RepA]
theorem renAs_rep (one : Bool) : ∀ (l : List AV) (vs : List Value), RepAs ok ι w one (renAs ρ l) vs ↔ RepAs ok (fun k => ι (ρ k)) w one l vs
  | [], vs => by simp only [renAs, RepAs]
  | a :: l, vs => by simp only [renAs, RepAs, renA_rep a, renAs_rep one l]
end
end
mutual
def clA (L : List Nat) : AV → Bool
  | .agg l => clAs L l
  | .tup l => clAs L l
  | .pt nm _ => L.contains nm
  | .ep nm _ _ _ => L.contains nm
  | .vw nm _ _ _ => L.contains nm
  | .gd _ x => clA L x
  | .pin _ x => clA L x
  | .cl _ l => clAs L l
  | .mp nm => L.contains nm
  | _ => true
def clAs (L : List Nat) : List AV → Bool
  | [] => true
  | a :: l => clA L a && clAs L l
end
def clE (L : List Nat) : Ent → Bool
  | .box _ c => clAs L c
  | .arr .. => true
  | .mp .. => true
  | .it .. => true
def clH (L : List Nat) : Hp → Bool
  | [] => true
  | (k, some (g, x)) :: l => g && L.contains k && clE L x && clH L l
  | (_, none) :: _ => false
def namesH : Hp → List Nat
  | [] => []
  | (k, _) :: l => k :: namesH l
mutual
theorem clA_refs {L : List Nat} : ∀ {a : AV}, clA L a = true → ∀ nm, a.refs nm = true → nm ∈ L
  | .agg l, h, nm, hr => by simp only [clA] at h; simp only [AV.refs] at hr; exact clAs_refs h nm hr
  | .tup l, h, nm, hr => by simp only [clA] at h; simp only [AV.refs] at hr; exact clAs_refs h nm hr
  | .pt k _, h, nm, hr | .ep k _ _ _, h, nm, hr | .vw k _ _ _, h, nm, hr | .mp k, h, nm, hr => by
    simp only [clA] at h; simp only [AV.refs, beq_iff_eq] at hr; subst hr; simpa using h
  | .gd _ x, h, nm, hr => by simp only [clA] at h; simp only [AV.refs] at hr; exact clA_refs h nm hr
  | .pin _ x, h, nm, hr => by simp only [clA] at h; simp only [AV.refs] at hr; exact clA_refs h nm hr
  | .cl _ l, h, nm, hr => by simp only [clA] at h; simp only [AV.refs] at hr; exact clAs_refs h nm hr
  | .un, _, nm, hr | .dat _, _, nm, hr | .rp _, _, nm, hr => by simp [AV.refs] at hr
theorem clAs_refs {L : List Nat} : ∀ {l : List AV}, clAs L l = true → ∀ nm, AV.refsL nm l = true → nm ∈ L
  | [], h, nm, hr => by simp [AV.refsL] at hr
  | a :: l, h, nm, hr => by
    simp only [clAs, Bool.and_eq_true] at h
    simp only [AV.refsL, Bool.or_eq_true] at hr
    rcases hr with hr | hr
    · exact clA_refs h.1 nm hr
    · exact clAs_refs h.2 nm hr
end
def matchH (h : Hp) (R : List (Nat × Nat)) : Hp → Prop
  | [] => True
  | (k, some (g, x)) :: l => (match geth h (lkr R k) with
      | some (g', x') => g' = true ∧ x' = renE (lkr R) x
      | none => False) ∧ matchH h R l
  | (_, none) :: _ => False
def newN (d : Nat) : Nat → List Nat → List (Nat × Nat)
  | _, [] => []
  | i, k :: l => (k, 10000 + 100 * d + i) :: newN d (i + 1) l
def drops (R : List (Nat × Nat)) : List Nat → Hp
  | [] => []
  | k :: l => (lkr R k, none) :: drops R l
def inL (A B : List Nat) : Bool := A.all fun k => B.contains k
def outL (A B : List Nat) : Bool := A.all fun k => !B.contains k
def freeL (A : List Nat) (h : Hp) : Bool := A.all fun k => (geth h k).isNone
def snds (l : List (Nat × Nat)) : List Nat := l.map fun p => p.2
def RRof (d : Nat) (Z : ZC) (R : List (Nat × Nat)) : List (Nat × Nat) := newN d 0 Z.news ++ R
def hpZ (d : Nat) (Z : ZC) (R : List (Nat × Nat)) (y : Z.β) (h : Hp) : Hp := renH (lkr (RRof d Z R)) (Z.h1 y) ++ (drops R (namesH Z.h0) ++ h)
def chkZ (d : Nat) (Z : ZC) (R : List (Nat × Nat)) (σ : St) : Bool :=
  noDup ((namesH Z.h0).map (lkr R)) && noDup (namesH Z.h0) && freshR σ (10000 + 100 * d) Z.news.length && decide (Z.news.length ≤ 100) && noDup (Z.pins ++ Z.news) && inL Z.pins (namesH Z.h0) && outL (snds (newN d 0 Z.news)) ((namesH Z.h0).map (lkr R)) && freeL (snds (newN d 0 Z.news)) σ.h
def sideZ (P : Program) (f : FuncId) (d : Nat) (Z : ZC) (R : List (Nat × Nat)) (σ : St) (as : List AV) : Prop :=
  pkl true as ∧ as.map sp = renAs (lkr R) Z.as ∧ matchH σ.h R Z.h0 ∧ (∀ y, clH (Z.pins ++ Z.news) (Z.h1 y) = true ∧ clA (Z.pins ++ Z.news) (Z.r y) = true) ∧ FnZ P f Z
end Go.Eng

set_option linter.unusedSimpArgs false
set_option linter.unusedVariables false
namespace Go.Eng
open Go.RowKit

def bkN : List (Nat × Nat) → Nat → Option Nat
  | [], _ => none
  | (k, c) :: l, x => bif c == x then some k else bkN l x
theorem EntOk.blk {own ok : Nat → Prop} {ι : Nat → Option (Nat × Nat)} {w : World} {nm b c : Nat} {x : Ent} (h : EntOk own ok ι w nm x) (hi : ι nm = some (b, c)) : own b := by
  cases x with
  | box T l => obtain ⟨b', cap, cur, h1, h2, _⟩ := h; rw [hi] at h1; simp at h1; exact h1.1 ▸ h2.1
  | arr T n l =>
    rcases h with ⟨h1, _⟩ | ⟨b', cap, cur, h1, h2, _⟩
    · rw [hi] at h1; cases h1
    · rw [hi] at h1; simp at h1; exact h1.1 ▸ h2
  | mp n l => obtain ⟨b', es, c', h1, h2, _⟩ := h; rw [hi] at h1; simp at h1; exact h1.1 ▸ h2
  | it n l cur => obtain ⟨b', m, es, c', sn, h1, h2, _⟩ := h; rw [hi] at h1; simp at h1; exact h1.1 ▸ h2
section
variable {C : Ctx} {σ : St} {o : Oper} {g : Bool}
end
end Go.Eng

set_option linter.unusedSimpArgs false
set_option linter.unusedVariables false
namespace Go.Eng
open Go.RowKit

structure ZQ where
  Z : ZC
  R : List (Nat × Nat)
abbrev TH := FuncId → List AV → Hp → Option ZQ
def zOf (Θ : TH) (o : Oper) (σ : St) : Option (FuncId × List AV × Nat × ZQ) :=
  match o.guard with
  | some _ => none
  | none => match o.op with
    | .call ⟨.value (.func f), as, _⟩ => match o.dst with
      | some d => match Θ f ((as.toList.map (opnd σ.e)).map sp) σ.h with
        | some z => some (f, as.toList.map (opnd σ.e), d, z)
        | none => none
      | none => none
    | _ => none
def ixOf (P : Program) (o : Oper) (σ : St) : Option (Nat × AV × Prop) :=
  match o.guard, o.dst, o.op with
  | none, some d, .index T x y => match sp (opnd σ.e x), isI (sp (opnd σ.e y)), arOf P T with
    | .agg l, some (_, i), some (len, e) => match tyOf P e, l[i.toNat]? with
      | some (sz, ag), some a => bif sz == 1 && !ag && l.length == len then some (d, a, pk true (opnd σ.e x) ∧ pk true (opnd σ.e y) ∧ 0 ≤ i ∧ i < len) else none
      | _, _ => none
    | _, _, _ => none
  | _, _, _ => none
def runZ (P : Program) (Γ : FuncId → List D → RV) (Δ : FuncId → List AV → Hp → Option (List PX × RV)) (Θ : TH) (n : Nat) (L : List Oper) (fz : List Nat) (K : St → Prop) : List Oper → Rn → Prop
  | [], r => fin r.its (K r.σ)
  | o :: os, r => match zOf Θ o r.σ with
    | some (f, as, d, z) => (decide (d < n) && isFn P f && chkZ d z.Z z.R r.σ) = true ∧
        fin r.its (sideZ P f d z.Z z.R r.σ as ∧ ∀ y, z.Z.q y → runZ P Γ Δ Θ n L fz K os ⟨⟨(d, renA (lkr (RRof d z.Z z.R)) (z.Z.r y)) :: r.σ.e, hpZ d z.Z z.R y r.σ.h⟩, []⟩)
    | none => match ixOf P o r.σ with
      | some (d, a, s) => decide (d < n) = true ∧ fin r.its (s ∧ runZ P Γ Δ Θ n L fz K os ⟨⟨(d, a) :: r.σ.e, r.σ.h⟩, []⟩)
      | none => match stepX P Γ Δ n L fz o r with
        | some r' => runZ P Γ Δ Θ n L fz K os r'
        | none => False
section
variable {C : Ctx} {σ : St}
end
end Go.Eng

set_option linter.unusedSimpArgs false
set_option linter.unusedVariables false
namespace Go.Eng
open Go.RowKit

section
variable {C : Ctx} {σ : St} {K R : St → Prop} {E : Nat → St → Prop}
def trims : List (Nat × Nat) → Hp → Option Hp
  | [], h => some h
  | (nm, m) :: l, h => match geth h nm with
    | some (true, .arr T n x) => trims l ((nm, some (true, .arr T n (x.take m))) :: h)
    | _ => none
def Trm (l : List (Nat × Nat)) (h : Hp) (k : Hp → Prop) : Prop := match trims l h with
  | some h' => k h'
  | none => False
end
end Go.Eng

namespace Go.Eng
open Go.RowKit Go.ChangeShapes Go.WideShapes

def Opn (P : Program) (w : World) (t : TypeId) (S : List D → Prop) : Prop :=
  ∀ (H : Type) (enc : TypeId × Value → H) (fuel : Nat) (cs : List Value) (x : DataW H × List MemPlace), DataW.trod enc P w 0 (fun _ => true) true fuel t cs = some x → (∀ k ∈ x.1.weights P t, k ≤ reachBytes) → ∃ l, S l ∧ RepDs (· < w.heap.size) w l cs

section
variable {P : Program} {w : World} {t e : TypeId}

theorem opn_int {k : IntKind} (ht : P.underlying t = some (.int k)) : Opn P w t fun l => ∃ n, (Lit.int k n).wf = true ∧ l = [dOf (.int k n)] := by
  intro H enc fuel cs x h _
  obtain ⟨n, rfl, _, hw⟩ := DataW.trod_int ht h
  refine ⟨_, ⟨n, hw, rfl⟩, ?_⟩
  simp only [RepDs]
  exact ⟨_, _, rfl, RepD_dOf _ _ _, rfl, rfl⟩

def SAll : List (List D → Prop) → List D → Prop
  | [], l => l = []
  | S :: Ss, l => ∃ a b, l = a ++ b ∧ S a ∧ SAll Ss b
def chain (P : Program) (k : Nat) : List Field → Nat → Prop
  | [], n => n = k
  | f :: l, n => f.offset = k ∧ chain P (k + P.cellsOf f.type) l n
def chainB (P : Program) (k : Nat) : List Field → Nat → Bool
  | [], n => n == k
  | f :: l, n => f.offset == k && chainB P (k + P.cellsOf f.type) l n
theorem chainB_spec {P : Program} : ∀ {l : List Field} {k n : Nat}, chainB P k l n = true → chain P k l n
  | [], k, n, h => by simpa [chainB, chain] using h
  | f :: l, k, n, h => by
    simp only [chainB, Bool.and_eq_true, beq_iff_eq] at h
    exact ⟨h.1, chainB_spec h.2⟩
def opnAll (P : Program) (w : World) : List Field → List (List D → Prop) → Prop
  | [], [] => True
  | f :: l, S :: Ss => Opn P w f.type S ∧ opnAll P w l Ss
  | _, _ => False

theorem fields_rep {H : Type} {enc : TypeId × Value → H} {fuel : Nat} {cs : List Value} : ∀ (fs : List Field) (Ss : List (List D → Prop)) (k : Nat) (xs : List (DataW H × List MemPlace)), opnAll P w fs Ss → chain P k fs cs.length →
    xs.length = fs.length → (∀ (i : Nat) (f : Field), fs[i]? = some f → DataW.trod enc P w 0 (fun _ => true) true fuel f.type ((cs.drop f.offset).take (P.cellsOf f.type)) = xs[i]?) →
    (∀ n ∈ DataW.weightsEach P (fs.map (·.type)) (xs.map (·.1)), n ≤ reachBytes) → ∃ l, SAll Ss l ∧ RepDs (· < w.heap.size) w l (cs.drop k)
  | [], [], k, xs, _, hc, _, _, _ => by
    simp only [chain] at hc
    exact ⟨[], rfl, by simp only [RepDs]; exact List.drop_of_length_le (by omega)⟩
  | [], _ :: _, _, _, h, _, _, _, _ => by simp [opnAll] at h
  | _ :: _, [], _, _, h, _, _, _, _ => by simp [opnAll] at h
  | f :: fs, S :: Ss, k, [], _, _, hl, _, _ => by simp at hl
  | f :: fs, S :: Ss, k, x :: xs, h, hc, hl, hx, hw => by
    simp only [opnAll] at h
    simp only [chain] at hc
    obtain ⟨rfl, hc⟩ := hc
    have h0 := hx 0 f rfl
    simp only [List.getElem?_cons_zero] at h0
    obtain ⟨a, ha, hra⟩ := h.1 H enc fuel _ x h0 (fun n hn => hw n (by simp only [List.map_cons, DataW.weightsEach, List.mem_append]; exact .inl hn))
    obtain ⟨b, hb, hrb⟩ := fields_rep fs Ss (f.offset + P.cellsOf f.type) xs h.2 hc (by simpa using hl) (fun i g hg => by simpa using hx (i + 1) g (by simpa using hg)) (fun n hn => hw n (by simp only [List.map_cons, DataW.weightsEach, List.mem_append]; exact .inr hn))
    refine ⟨a ++ b, ⟨a, b, rfl, ha, hb⟩, ?_⟩
    have e : cs.drop f.offset = (cs.drop f.offset).take (P.cellsOf f.type) ++ cs.drop (f.offset + P.cellsOf f.type) := by
      rw [← List.drop_drop, List.take_append_drop]
    rw [e]
    exact RepDs_append hra hrb

theorem opn_struct {fs : Array Field} {Ss : List (List D → Prop)} (ht : P.underlying t = some (.struct fs)) (hc : chain P 0 fs.toList (P.cellsOf t)) (ho : opnAll P w fs.toList Ss) : Opn P w t (SAll Ss) := by
  intro H enc fuel cs x h hw
  obtain ⟨xs, n, rfl, rfl, hl, hlen, hx⟩ := DataW.trod_struct ht h
  obtain ⟨l, h1, h2⟩ := fields_rep (P := P) (w := w) (enc := enc) (fuel := n) (cs := cs) fs.toList Ss 0 xs ho (by rw [hl]; exact hc) (by simpa using hlen) (fun i f hf => hx i f (by simpa using hf)) (fun k hk => hw k (by simp only [DataW.weights, ht]; exact hk))
  exact ⟨l, h1, by simpa using h2⟩

theorem weightsAll_mem {H : Type} {n : Nat} : ∀ {l : List (DataW H)} {d : DataW H}, d ∈ l → n ∈ d.weights P e → n ∈ DataW.weightsAll P e l
  | [], d, h, _ => by simp at h
  | a :: l, d, h, hn => by
    simp only [DataW.weightsAll, List.mem_append]
    simp only [List.mem_cons] at h
    rcases h with rfl | h
    · exact .inl hn
    · exact .inr (weightsAll_mem h hn)

theorem add_none {b o j : Nat} : (⟨b, o, none⟩ : Addr).add j = ⟨b, o + j, none⟩ := by unfold Addr.add; split <;> simp_all

theorem elems_rep {S : List D → Prop} {n : Nat} {b o : Nat} : ∀ (m : Nat), (∀ i, i < m → ∃ cs, cs.length = n ∧ (∀ j u, cs[j]? = some u → w.cell? ⟨b, o + i * n + j, none⟩ = some u) ∧ ∃ l, S l ∧ RepDs (· < w.heap.size) w l cs) →
    ∃ (els : List (List D)) (vs : List Value), els.length = m ∧ (∀ x ∈ els, S x) ∧ RepDss (· < w.heap.size) w n els vs ∧ cellsAt w b o vs
  | 0, _ => ⟨[], [], rfl, by simp, by simp only [RepDss], fun j u h => by simp at h⟩
  | m + 1, h => by
    obtain ⟨els, vs, h1, h2, h3, h4⟩ := elems_rep m fun i hi => h i (by omega)
    obtain ⟨cs, c1, c2, l, c3, c4⟩ := h m (by omega)
    have hl := RepDss_length h3
    refine ⟨els ++ [l], vs ++ cs, by simp [h1], ?_, RepDss_append h3 (by simp only [RepDss]; exact ⟨cs, [], by simp, c1, c4, rfl⟩), ?_⟩
    · intro x hx
      simp only [List.mem_append, List.mem_singleton] at hx
      rcases hx with hx | rfl
      · exact h2 x hx
      · exact c3
    · intro j u hu
      by_cases hj : j < vs.length
      · rw [List.getElem?_append_left hj] at hu; exact h4 j u hu
      · rw [List.getElem?_append_right (by omega)] at hu
        have hv : vs.length = m * n := by rw [hl, h1]
        have := c2 _ u hu
        rw [hv] at this hj
        rw [← this]; congr 2; omega

theorem opn_slice {S : List D → Prop} {n : Nat} (ht : P.underlying t = some (.slice e)) (hc : P.cellsOf e = n) (hn : 0 < n) (hb : 0 < P.bytesOf e) (h : Opn P w e S) : Opn P w t fun l => ∃ els : List (List D), (∀ x ∈ els, S x) ∧ els.length * P.bytesOf e ≤ reachBytes ∧ l = [.sl n els] := by
  intro H enc fuel cs x hx hw
  rcases DataW.trod_slice ht hx with ⟨rfl, rfl⟩ | ⟨a, len, cap, elems, rest, m, rfl, rfl, rfl, _, hl, hm, hlen, hel, _, _⟩
  · refine ⟨_, ⟨[], by simp, by simp, rfl⟩, ?_⟩
    simp only [RepDs, RepD]
    exact ⟨_, _, rfl, ⟨by simp, .inl ⟨trivial, _, _, rfl⟩⟩, rfl, rfl⟩
  · simp only [DataW.weights, ht] at hw
    have hsz : len * P.bytesOf e ≤ reachBytes := by
      have := hw ((List.map (fun x => x.1) elems).length + (List.map (fun x => x.1) rest).length) |> fun f => hw (((List.map (fun x => x.1) elems).length + (List.map (fun x => x.1) rest).length) * P.bytesOf e) (by simp)
      have h2 : len * P.bytesOf e ≤ ((List.map (fun x => x.1) elems).length + (List.map (fun x => x.1) rest).length) * P.bytesOf e := Nat.mul_le_mul_right _ (by simp [hlen])
      omega
    have hlb : len ≤ 281474976710656 := by
      have h2 : len * 1 ≤ len * P.bytesOf e := Nat.mul_le_mul_left _ hb
      unfold reachBytes at hsz; omega
    by_cases h0 : len = 0
    · subst h0
      refine ⟨_, ⟨[], by simp, by simp, rfl⟩, ?_⟩
      simp only [RepDs, RepD]
      exact ⟨_, _, rfl, ⟨by simp, .inl ⟨trivial, _, _, rfl⟩⟩, rfl, rfl⟩
    · have hcell : ∀ i, i < len → ∃ cs y, w.cells? 0 (a.add (i * n)) n = some cs ∧ elems[i]? = some y ∧ DataW.trod enc P w 0 (fun _ => true) true m e cs = some y := by
        intro i hi
        have h1 := hel i hi
        rw [hc] at h1
        have h2 : i < elems.length := by omega
        rw [List.getElem?_eq_getElem h2] at h1
        obtain ⟨cs, h3, h4⟩ := Option.bind_eq_some_iff.1 h1
        exact ⟨cs, _, h3, List.getElem?_eq_getElem h2, h4⟩
      have hspot : a = ⟨a.block, a.off, none⟩ ∧ a.block < w.heap.size := by
        obtain ⟨cs, y, h1, _, _⟩ := hcell 0 (by omega)
        have h2 := World.cells?_some h1
        have h3 := h2.2.2 0 hn
        have h4 : cs[0]? = some (cs[0]'(by omega)) := List.getElem?_eq_getElem _
        rw [h4] at h3
        simp only [Nat.zero_mul, Addr.add, if_true] at h3
        obtain ⟨B, O, sp⟩ := a
        unfold World.cell? at h3
        split at h3
        · rename_i hh
          cases sp with
          | none => exact ⟨rfl, (Array.getElem?_eq_some_iff.1 hh).1⟩
          | some k => simp at h3
        · cases h3
      obtain ⟨els, vs, e1, e2, e3, e4⟩ := elems_rep (w := w) (S := S) (n := n) (b := a.block) (o := a.off) len (by
        intro i hi
        obtain ⟨cs, y, h1, h2, h3⟩ := hcell i hi
        have h4 := World.cells?_some h1
        refine ⟨cs, h4.2.1, fun j u hu => ?_, h H enc m cs y h3 fun k hk => hw k ?_⟩
        · have hj : j < n := by rw [← h4.2.1]; exact (List.getElem?_eq_some_iff.1 hu).1
          have := h4.2.2 j hj
          rw [hu, hspot.1, add_none, add_none] at this
          exact this
        · refine List.mem_cons_of_mem _ (List.mem_append.2 (.inl (weightsAll_mem (d := y.1) ?_ hk)))
          exact List.mem_map.2 ⟨y, List.mem_of_getElem? h2, rfl⟩)
      refine ⟨_, ⟨els, e2, by rw [e1]; exact hsz, rfl⟩, ?_⟩
      simp only [RepDs, RepD]
      refine ⟨_, _, rfl, ⟨by omega, .inr ⟨a.block, a.off, cap, vs, by rw [e1, ← hspot.1], by omega, hspot.2, e3, e4⟩⟩, rfl, rfl⟩
end
section
variable {H : Type} {enc : TypeId × Value → H} {P : Program} {w : World} {base : Nat} {spare : Nat → Bool} {held : Bool}
end
end Go.Eng

set_option linter.unusedSimpArgs false
set_option linter.unusedVariables false
namespace Go.Eng
open Go.RowKit

def nxOf (o : Oper) (σ : St) : Option (Nat × Nat × Nat × List (List Int × D) × Prop) :=
  match o.guard, o.dst, o.op with
  | none, some d, .next x false => match sp (opnd σ.e x) with
    | .pt nm 0 => match geth σ.h nm with
      | some (g', .it n l _) => some (d, nm, n, l, pk true (opnd σ.e x) ∧ g' = true)
      | _ => none
    | _ => none
  | _, _, _ => none
def runN {β : Type} (P : Program) (Γ : FuncId → List D → RV) (Δ : FuncId → List AV → Hp → Option (List PX × RV)) (Θ : TH) (n : Nat) (L : List Oper) (fz : List Nat) (G : β → List Int × D) (K : St → Prop) : List Oper → St → Prop
  | [], _ => False
  | o :: os, σ => match nxOf o σ with
    | some (d, nm, m, l, s) => decide (d < n) = true ∧ s ∧ (∀ p ∈ l, ∃ y, G y = p) ∧
        (l = [] → runZ P Γ Δ Θ n L fz K os ⟨⟨(d, .tup [.dat (.b false)]) :: σ.e, σ.h⟩, []⟩) ∧
        ∀ y j, l[j]? = some (G y) → runZ P Γ Δ Θ n L fz K os ⟨⟨(d, .tup [.dat (.b true), .dat (keyD m (G y).1), .dat (G y).2]) :: σ.e, (nm, some (true, .it m (l.eraseIdx j) (some (G y)))) :: σ.h⟩, []⟩
    | none => False
section
variable {C : Ctx} {σ : St} {K R : St → Prop} {E : Nat → St → Prop} {β : Type}
end
end Go.Eng

set_option linter.unusedSimpArgs false
set_option linter.unusedVariables false
namespace Go.Eng
open Go.RowKit

def bOf : List (Nat × List Nat) → Nat → Option (List Nat)
  | [], _ => none
  | (j, l) :: L, i => bif j == i then some l else bOf L i
mutual
def inN (l : List Nat) : AV → Bool
  | .pt m _ => l.contains m
  | .ep m _ _ _ => l.contains m
  | .vw m _ _ _ => l.contains m
  | .agg x => inNL l x
  | .tup x => inNL l x
  | .gd _ x => inN l x
  | .pin _ x => inN l x
  | .cl _ x => inNL l x
  | .mp m => l.contains m
  | _ => true
def inNL (l : List Nat) : List AV → Bool
  | [] => true
  | a :: x => inN l a && inNL l x
end
mutual
theorem inN_mem {l : List Nat} {k : Nat} : ∀ {a : AV}, inN l a = true → a.refs k = true → k ∈ l
  | .pt m _, h, r | .ep m _ _ _, h, r | .vw m _ _ _, h, r | .mp m, h, r => by
    simp only [inN, List.contains_iff_mem] at h
    simp only [AV.refs, beq_iff_eq] at r
    subst r; exact h
  | .agg x, h, r | .tup x, h, r | .cl _ x, h, r => by
    simp only [inN] at h
    simp only [AV.refs] at r
    exact inNL_mem h r
  | .gd _ x, h, r | .pin _ x, h, r => by
    simp only [inN] at h
    simp only [AV.refs] at r
    exact inN_mem h r
  | .un, h, r | .dat _, h, r | .rp _, h, r => by simp [AV.refs] at r
theorem inNL_mem {l : List Nat} {k : Nat} : ∀ {a : List AV}, inNL l a = true → AV.refsL k a = true → k ∈ l
  | [], h, r => by simp [AV.refsL] at r
  | a :: x, h, r => by
    simp only [inNL, Bool.and_eq_true] at h
    simp only [AV.refsL, Bool.or_eq_true] at r
    exact r.elim (inN_mem h.1) (inNL_mem h.2)
end
def appM (o : Oper) : Bool := match o.op with
  | .call ⟨.builtin .append, _, _⟩ => true
  | _ => !muts o
def allN (l : List Nat) (e : List (Nat × AV)) : List Operand → Bool
  | [] => true
  | z :: x => inN l (opnd e z) && allN l e x
def nmOk (P : Program) (B : List (Nat × List Nat)) (o : Oper) (i : Nat) (e : List (Nat × AV)) : Prop := match bOf B i with
  | none => True
  | some l => allN l e o.op.operands.toList = true
section
variable {P : Program} {Γ : FuncId → List D → RV} {fz : List Nat} {L : List Oper} {σ σ' : St} {o : Oper} {g : Bool} {ops : Array Oper} {B : List (Nat × List Nat)}
end
def sepB (B : List (Nat × List Nat)) (i j : Nat) : Bool := match bOf B i, bOf B j with
  | some l, some l' => l.all fun k => !l'.contains k
  | _, _ => false
def okPairB (ops : Array Oper) (A : List (Nat × List Nat)) (i j : Nat) (x y : Oper) : Bool := okPair ops x y || (x.apart ops y && (appM x && appM y && sepB A i j))
def LxB (P : Program) (Γ : FuncId → List D → RV) (ops : Array Oper) (fz : List Nat) (A : List (Nat × List Nat)) : List Nat → St → St → Prop
  | [], σ, τ => τ = σ
  | i :: l, σ, τ => ∃ o σ' p, ops[i]? = some o ∧ stepD P Γ ops.toList fz o σ = some (σ', p) ∧ p ∧ nmOk P A o i σ.e ∧ LxB P Γ ops fz A l σ' τ
def stepQB (P : Program) (Γ : FuncId → List D → RV) (A : List (Nat × List Nat)) (L : List Oper) (fz : List Nat) (k : Nat) (o : Oper) (r : Rn) : Option Rn :=
  match stepQ P Γ L fz o r with
  | some r' => some ⟨r'.σ, (true, nmOk P A o k r.σ.e) :: r'.its⟩
  | none => none
def runQB (P : Program) (Γ : FuncId → List D → RV) (A : List (Nat × List Nat)) (L : List Oper) (fz : List Nat) : Nat → List Oper → Option Rn → Option Rn
  | _, _, none => none
  | _, [], some r => some r
  | k, o :: os, some r => runQB P Γ A L fz (k + 1) os (stepQB P Γ A L fz k o r)
def chkIB (ops : Array Oper) (A : List (Nat × List Nat)) (m : List Nat) (i : Nat) (oi : Oper) : Bool :=
  (edg oi).all (fun t => decide (t < i)) && (List.range i).all fun j =>
    bif (m.getD i 0).testBit j then (edg oi).any (fun t => t == j || (decide (j < t) && (m.getD t 0).testBit j))
    else match ops[j]? with
      | some oj => okPairB ops A j i oj oi
      | none => true
def chkDB (n : Nat) (ops : Array Oper) (A : List (Nat × List Nat)) (m : List Nat) : Bool :=
  decide (n ≤ 10000) && ops.toList.all (fun o => inB n o.dst) && (List.range ops.size).all fun i => match ops[i]? with
    | some oi => chkIB ops A m i oi
    | none => true

section
variable {P : Program} {Γ : FuncId → List D → RV} {fz : List Nat} {L : List Oper} {σ σ' : St} {o : Oper} {g : Bool} {ops : Array Oper} {A : List (Nat × List Nat)}
end

section
variable {n : Nat} {ops : Array Oper} {A : List (Nat × List Nat)} {m : List Nat} {listed : Array Bool}

end

section
variable {C : Ctx} {Γ : FuncId → List D → RV} {fz : List Nat} {ops : Array Oper} {A : List (Nat × List Nat)} {m : List Nat}

end
section
variable {C : Ctx} {K R : St → Prop} {E : Nat → St → Prop} {σ : St}
end
end Go.Eng

set_option linter.unusedSimpArgs false
set_option linter.unusedVariables false
namespace Go.Eng
open Go.RowKit

def vCmpN (P : Program) (op : BinOp) (T : Nat) (g : Bool) (x y : AV) : Option Out :=
  match elOf P T, sp x, sp y with
  | some _, .vw _ _ m _, .dat (.v (.slice none 0 0)) => match notIf op false with
    | some r => some ⟨.dat (.b r), [], pk g x ∧ pk g y ∧ 0 < m, True⟩
    | none => none
  | some _, .dat (.v (.slice a _ _)), .dat (.v (.slice none 0 0)) => match notIf op a.isNone with
    | some r => some ⟨.dat (.b r), [], pk g x ∧ pk g y, True⟩
    | none => none
  | some _, .dat (.sl _ l), .dat (.v (.slice none 0 0)) => match notIf op false with
    | some r => some ⟨.dat (.b r), [], pk g x ∧ pk g y ∧ 0 < l.length, True⟩
    | none => none
  | _, _, _ => none
def outYN (P : Program) (Δ : FuncId → List AV → Hp → Option (List PX × RV)) (o : Oper) (g : Bool) (σ : St) : Option Out :=
  match o.op with
  | .binOp op T x y _ => vCmpN P op T g (opnd σ.e x) (opnd σ.e y)
  | _ => outY P Δ o g σ

section
variable {C : Ctx} {σ : St} {o : Oper} {g : Bool}
theorem run_eqGuard_sl {P : Program} (w : World) (op : BinOp) (T : Nat) (x y : Operand) (a b : Option Addr) (n c n' c' : Nat) : (eqGuard op T x y (.slice a n c) (.slice b n' c')).run P w = .ok () w := by
  unfold eqGuard
  cases op <;> rfl
theorem run_equalIn_sl {P : Program} (w : World) (d : Nat) (t e : TypeId) (a : Option Addr) (n c n' c' : Nat) (h : P.underlying t = some (.slice e)) :
    (Op.equalIn (d + 1) t (.slice a n c) (.slice none n' c')).run P w = .ok a.isNone w := by
  cases a <;> simp [Op.equalIn, run_underlying h]
theorem elOf_under {P : Program} {T e : Nat} (h : elOf P T = some e) : P.underlying T = some (.slice e) := by
  unfold elOf at h
  split at h
  · simp only [Option.some.injEq] at h; subst h; assumption
  · cases h
theorem snd_cmpN {op : BinOp} {T T' : Nat} {x y : Operand} {out : Out} (ho : o.op = .binOp op T x y T') (h : vCmpN C.P op T g (opnd σ.e x) (opnd σ.e y) = some out) : Snd C o g σ out := by
  unfold vCmpN at h
  split at h
  · rename_i e nm oo m n he hx hy
    split at h
    · rename_i r hr
      simp only [Option.some.injEq] at h; subst h
      refine Snd.pure fun ι a w S hg hs => ?_
      obtain ⟨p1, p2, hm⟩ := hs
      have ex := S.sopnd hg x p1
      have ey := S.sopnd hg y p2
      rw [hx] at ex; rw [hy] at ey
      simp only [RepA, RepD] at ex ey
      rcases ex with ⟨_, _, _, h0⟩ | ⟨b, c, _, ex, _⟩
      · omega
      · refine ⟨.bool r, ?_, trivial, by simp only [RepA, RepD]⟩
        have hq := run_equalIn_sl (P := C.P) w 9999 T e (some ⟨b, oo * n, none⟩) m (c - oo) 0 0 (elOf_under he)
        cases op <;> simp only [notIf, Option.some.injEq, reduceCtorEq] at hr <;> subst hr <;> simp [execOp, ho, ex, ey, run_eqGuard_sl, binOp, Op.equal, Op.maxDepth, hq]
    · cases h
  · rename_i e va vn vc he hx hy
    split at h
    · rename_i r hr
      simp only [Option.some.injEq] at h; subst h
      refine Snd.pure fun ι a w S hg hs => ?_
      have ex := S.sopnd hg x hs.1
      have ey := S.sopnd hg y hs.2
      rw [hx] at ex; rw [hy] at ey
      simp only [RepA, RepD] at ex ey
      refine ⟨.bool r, ?_, trivial, by simp only [RepA, RepD]⟩
      have hq := run_equalIn_sl (P := C.P) w 9999 T e va vn vc 0 0 (elOf_under he)
      cases op <;> simp only [notIf, Option.some.injEq, reduceCtorEq] at hr <;> subst hr <;> simp [execOp, ho, ex, ey, run_eqGuard_sl, binOp, Op.equal, Op.maxDepth, hq]
    · cases h
  · rename_i e n l he hx hy
    split at h
    · rename_i r hr
      simp only [Option.some.injEq] at h; subst h
      refine Snd.pure fun ι a w S hg hs => ?_
      obtain ⟨p1, p2, hm⟩ := hs
      have ex := S.sopnd hg x p1
      have ey := S.sopnd hg y p2
      rw [hx] at ex; rw [hy] at ey
      simp only [RepA, RepD] at ex ey
      obtain ⟨_, ex⟩ := ex
      rcases ex with ⟨rfl, _⟩ | ⟨b, oo, cap, vs, ex, _⟩
      · simp at hm
      · refine ⟨.bool r, ?_, trivial, by simp only [RepA, RepD]⟩
        have hq := run_equalIn_sl (P := C.P) w 9999 T e (some ⟨b, oo, none⟩) l.length cap 0 0 (elOf_under he)
        cases op <;> simp only [notIf, Option.some.injEq, reduceCtorEq] at hr <;> subst hr <;> simp [execOp, ho, ex, ey, run_eqGuard_sl, binOp, Op.equal, Op.maxDepth, hq]
    · cases h
  · cases h
theorem outYN_snd {Δ : FuncId → List AV → Hp → Option (List PX × RV)} {out : Out} (h : outYN C.P Δ o g σ = some out) : SndW C o g σ out := by
  unfold outYN at h
  split at h
  · rename_i ho; exact (snd_cmpN ho h).toW
  · exact outY_snd h

def outZN (P : Program) (Γ : FuncId → List D → RV) (Δ : FuncId → List AV → Hp → Option (List PX × RV)) (fz : List Nat) (o : Oper) (g : Bool) (σ : St) : Option Out :=
  match outYN P Δ o g σ with
  | some out => some out
  | none => outOf P Γ fz o g σ

def stepXN (P : Program) (Γ : FuncId → List D → RV) (Δ : FuncId → List AV → Hp → Option (List PX × RV)) (n : Nat) (L : List Oper) (fz : List Nat) (o : Oper) (r : Rn) : Option Rn :=
  bif inB n o.dst then (match o.guard with
    | none => match outZN P Γ Δ fz o true r.σ with
      | some out => some ⟨⟨putA o.dst out.av r.σ.e, out.hp ++ r.σ.h⟩, (false, out.know) :: (true, out.side) :: r.its⟩
      | none => none
    | some (j, want) => match gval L r.σ.e j want with
      | some g => match outZN P Γ Δ fz o g r.σ with
        | some out => some ⟨⟨putA o.dst (.gd g out.av) r.σ.e, hg g out.hp ++ r.σ.h⟩, (false, g = true → out.know) :: (true, g = true → out.side) :: r.its⟩
        | none => none
      | none => none) else none
def runXN (P : Program) (Γ : FuncId → List D → RV) (Δ : FuncId → List AV → Hp → Option (List PX × RV)) (n : Nat) (L : List Oper) (fz : List Nat) : List Oper → Option Rn → Option Rn
  | _, none => none
  | [], some r => some r
  | o :: os, some r => runXN P Γ Δ n L fz os (stepXN P Γ Δ n L fz o r)

theorem outZN_snd {Γ : FuncId → List D → RV} {Δ : FuncId → List AV → Hp → Option (List PX × RV)} {fz : List Nat} {out : Out} (h : outZN C.P Γ Δ fz o g σ = some out) : SndW C o g σ out := by
  unfold outZN at h
  split at h
  · rename_i out' h'
    simp only [Option.some.injEq] at h; subst h
    exact outYN_snd h'
  · exact outOf_snd h

theorem stepXN_sound {Γ : FuncId → List D → RV} {Δ : FuncId → List AV → Hp → Option (List PX × RV)} {L : List Oper} {fz : List Nat} {r r' : Rn} (h : stepXN C.P Γ Δ C.n L fz o r = some r') :
    ∃ its, r'.its = its ++ r.its ∧ ∀ (S' : Prop), fin its S' →
      ∀ ι a w, SimI C r.σ ι a w → ∀ (K : Act → World → Prop) (Q : Exit → Act → World → Prop), (S' → ∀ ι' a' w', SimI C r'.σ ι' a' w' → K a' w') →
        if Region.wanted o (yielded L.toArray a.tmps) then o.wp C.P a w K Q else K (a.put o.dst undef) w := by
  unfold stepXN at h
  cases hin : inB C.n o.dst
  · simp [hin] at h
  · simp only [hin, cond_true] at h
    have hput : ∀ {σ' : St} {ι' : Nat → Option (Nat × Nat)} {a : Act} {w' : World} {av : AV} {v : Value}, SimI C σ' ι' a w' → RepA (okOf C.F σ'.h ι' w') ι' w' av v → SimI C ⟨putA o.dst av σ'.e, σ'.h⟩ ι' (a.put o.dst v) w' := by
      intro σ' ι' a w' av v S hr
      cases hd : o.dst with
      | none => simpa only [putA, Act.put] using S
      | some d =>
        simp only [putA]
        refine S.put ?_ hr
        simpa [hd, inB] using hin
    split at h
    · rename_i hgd
      split at h
      · rename_i out ho
        simp only [Option.some.injEq] at h; subst h
        refine ⟨[(false, out.know), (true, out.side)], rfl, fun S' hS ι a w S K Q hK => ?_⟩
        simp only [fin] at hS
        have hw : Region.wanted o (yielded L.toArray a.tmps) = true := by simp [Region.wanted, hgd]
        rw [if_pos hw]
        exact outZN_snd ho ι a w S rfl hS.1 K Q (fun v w' ι' hk S1 hr => hK (hS.2 hk) ι' _ w' (hput (σ' := ⟨r.σ.e, out.hp ++ r.σ.h⟩) S1 hr))
      · cases h
    · rename_i j want hgd
      split at h
      · rename_i g hgv
        split at h
        · rename_i out ho
          simp only [Option.some.injEq] at h; subst h
          refine ⟨[(false, g = true → out.know), (true, g = true → out.side)], rfl, fun S' hS ι a w S K Q hK => ?_⟩
          simp only [fin] at hS
          rw [gval_rep S hgd hgv]
          cases g with
          | true =>
            simp only [if_true]
            refine outZN_snd ho ι a w S rfl (hS.1 rfl) K Q (fun v w' ι' hk S1 hr => hK (hS.2 (fun _ => hk)) ι' _ w' ?_)
            rw [hg_true]
            exact hput (σ' := ⟨r.σ.e, out.hp ++ r.σ.h⟩) S1 (by simp only [RepA]; exact ⟨(fun _ => hr), (fun h => by cases h)⟩)
          | false =>
            simp only [Bool.false_eq_true, if_false]
            refine hK (hS.2 (fun h => by cases h)) ι _ w ?_
            exact hput (σ' := ⟨r.σ.e, hg false out.hp ++ r.σ.h⟩) (hg_false (e := r.σ.e) (h := out.hp) (h0 := r.σ.h) S) (by simp only [RepA]; exact ⟨(fun h => by cases h), (fun _ => trivial)⟩)
        · cases h
      · cases h

theorem runXN_none {P : Program} {Γ : FuncId → List D → RV} {Δ : FuncId → List AV → Hp → Option (List PX × RV)} {n : Nat} {L : List Oper} {fz : List Nat} : ∀ {os : List Oper}, runXN P Γ Δ n L fz os none = none
  | [] => rfl
  | _ :: _ => rfl

theorem runXN_sound {Γ : FuncId → List D → RV} {Δ : FuncId → List AV → Hp → Option (List PX × RV)} {L : List Oper} {fz : List Nat} {K : St → Prop} {Q : Exit → Act → World → Prop} (hQ : ∀ σ a w, K σ → Sim C σ a w → Q .normal a w) :
    ∀ (os : List Oper) (k : Nat) (r : Rn), L.drop k = os → Hold (runXN C.P Γ Δ C.n L fz os (some r)) K → fin r.its (∀ ι a w, SimI C r.σ ι a w → wpOps C.P L.toArray Q (List.range' k os.length) a w)
  | [], k, r, hk, h => by
    simp only [runXN, Hold] at h
    refine fin_mono (fun hK ι a w S => ?_) h
    simp only [List.length_nil, List.range'_zero, wpOps]
    exact hQ _ a w hK ⟨ι, S⟩
  | o :: os, k, r, hk, h => by
    simp only [runXN] at h
    cases hs : stepXN C.P Γ Δ C.n L fz o r with
    | none => rw [hs, runXN_none] at h; exact h.elim
    | some r' =>
      rw [hs] at h
      obtain ⟨its, hi, hstep⟩ := stepXN_sound hs
      have hk' : L.drop (k + 1) = os := by rw [← List.drop_drop, hk]; rfl
      have ho : L[k]? = some o := by
        have := congrArg (·[0]?) hk
        simpa using this
      have ih := runXN_sound hQ os (k + 1) r' hk' h
      rw [hi] at ih
      refine fin_mono (fun hS ι a w S => ?_) (fin_append ih)
      simp only [List.length_cons, List.range'_succ, wpOps, List.getElem?_toArray, ho]
      have h1 := hstep _ hS ι a w S (wpOps C.P L.toArray Q (List.range' (k + 1) os.length)) Q (fun hh ι' a' w' S' => hh ι' a' w' S')
      split
      · rename_i hw; rw [if_pos hw] at h1; exact .inl h1
      · rename_i hw; rw [if_neg hw] at h1; exact h1

theorem WA_regionXN {K R : St → Prop} {E : Nat → St → Prop} {id : Nat} {ops : Array Oper} (Γ : FuncId → List D → RV) (Δ : FuncId → List AV → Hp → Option (List PX × RV)) (fz V : List Nat) (h : Hold (runXN C.P Γ Δ C.n ops.toList fz ops.toList (some ⟨σ, []⟩)) (fun σ' => K (gather V σ'))) : WA C (.region id ops false) K R E σ := by
  unfold WA
  intro a w S
  obtain ⟨ι, S⟩ := S
  have h1 := runXN_sound (C := C) (Q := QQ C K R E) (K := fun σ' => K (gather V σ')) (fun σ a w hk hs => ⟨_, hk, hs.gather V⟩) ops.toList 0 ⟨σ, []⟩ (by simp) h
  simp only [fin] at h1
  have h2 := h1 ι a w S
  refine wp_region ?_
  simpa [List.range_eq_range'] using h2
theorem V_regionXN {K R : St → Prop} {E : Nat → St → Prop} {id : Nat} {ops : Array Oper} (Γ : FuncId → List D → RV) (Δ : FuncId → List AV → Hp → Option (List PX × RV)) (fz V : List Nat) (h : Ev (Hold (runXN C.P Γ Δ C.n ops.toList fz ops.toList (some ⟨σ, []⟩)) (fun σ' => K (gather V σ')))) : WA C (.region id ops false) K R E σ := WA_regionXN Γ Δ fz V h.out

end
theorem Fn.sl0 {P : Program} {f : FuncId} {r : RV} {n : Nat} (h : ∀ a cap, Fn P f [.v (.slice a 0 cap)] r) : Fn P f [.sl n []] r := by
  intro w vs G hv
  simp only [RepL, RepD] at hv
  obtain ⟨v, vs', e, ⟨_, hv⟩, h2⟩ := hv
  rcases hv with ⟨_, a, cap, rfl⟩ | ⟨b, o, cap, us, rfl, hc⟩
  · exact h a cap w vs G (by simp only [RepL, RepD]; exact ⟨_, vs', e, rfl, h2⟩)
  · exact h _ cap w vs G (by simp only [RepL, RepD]; exact ⟨_, vs', e, rfl, h2⟩)
end Go.Eng

