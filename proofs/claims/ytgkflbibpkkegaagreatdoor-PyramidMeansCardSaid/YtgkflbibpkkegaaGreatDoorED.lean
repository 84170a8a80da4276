import Derived.Test.YtgkflbibpkkegaaGreatDoorEC
import Derived.Maps.RangeRun
import Derived.WideLaws
set_option linter.unusedSimpArgs false
set_option linter.unusedVariables false
namespace Go.Eng
open Go.RowKit


def gOf (L : List Oper) (e : List (Nat × AV)) (o : Oper) : Option Bool := match o.guard with
  | none => some true
  | some (j, want) => gval L e j want
def wr (o : Oper) (g : Bool) (a : AV) : AV := match o.guard with
  | none => a
  | some _ => .gd g a
def hw (o : Oper) (g : Bool) (h : Hp) : Hp := match o.guard with
  | none => h
  | some _ => hg g h

def stepD (P : Program) (Γ : FuncId → List D → RV) (L : List Oper) (fz : List Nat) (o : Oper) (σ : St) : Option (St × Prop) :=
  match gOf L σ.e o with
  | none => none
  | some g => match outD P Γ fz o g σ with
    | none => none
    | some x => some (⟨putA o.dst (wr o g x.av) σ.e, hw o g x.hp ++ σ.h⟩, g = true → x.side)

structure Eqv (σ σ' : St) : Prop where
  e : ∀ s, get σ.e s = get σ'.e s
  h : ∀ k, geth σ.h k = geth σ'.h k
  f : ∀ k, fresh k σ = fresh k σ'

theorem Eqv.refl (σ : St) : Eqv σ σ := ⟨fun _ => rfl, fun _ => rfl, fun _ => rfl⟩
theorem Eqv.symm {σ σ' : St} (h : Eqv σ σ') : Eqv σ' σ := ⟨fun s => (h.e s).symm, fun s => (h.h s).symm, fun s => (h.f s).symm⟩
theorem Eqv.trans {σ σ' σ'' : St} (h : Eqv σ σ') (h' : Eqv σ' σ'') : Eqv σ σ'' := ⟨fun s => (h.e s).trans (h'.e s), fun s => (h.h s).trans (h'.h s), fun s => (h.f s).trans (h'.f s)⟩

theorem Eqv.sim {C : Ctx} {σ σ' : St} {a : Act} {w : World} (h : Eqv σ σ') (S : Sim C σ a w) : Sim C σ' a w := by
  obtain ⟨ι, S⟩ := S
  have S1 : SimI C ⟨σ'.e, σ.h⟩ ι a w := ⟨fun s => by rw [← h.e]; exact S.env s, S.ent, S.inj, S.os, S.tape, S.output, S.size, S.old, S.def0, S.tms⟩
  exact ⟨ι, S1.hcongr fun k => (h.h k).symm⟩

theorem opnd_congr {e e' : List (Nat × AV)} (x : Operand) (h : ∀ s, x = .tmp s → get e s = get e' s) : opnd e x = opnd e' x := by
  unfold opnd
  cases x <;> first | rfl | exact h _ rfl

theorem get_putA {d : Option Nat} {a : AV} {e : List (Nat × AV)} {s : Nat} : get (putA d a e) s = if d = some s then a else get e s := by
  cases d with
  | none => simp [putA]
  | some d =>
    simp only [putA, get]
    by_cases h : d = s
    · simp [h]
    · have : (d == s) = false := by simpa using h
      simp [h, this]

theorem geth_app {k : Nat} {h' : Hp} : ∀ {h : Hp}, (∀ x, (k, x) ∉ h) → geth (h ++ h') k = geth h' k
  | [], _ => rfl
  | (j, x) :: l, hn => by
    have hj : (j == k) = false := by simp only [beq_eq_false_iff_ne]; rintro rfl; exact hn x (by simp)
    simp only [List.cons_append, geth, hj, cond_false]
    exact geth_app (h := l) fun x hx => hn x (by simp [hx])

theorem geth_app_congr {k : Nat} {h1 h2 : Hp} (he : geth h1 k = geth h2 k) : ∀ (h : Hp), geth (h ++ h1) k = geth (h ++ h2) k
  | [] => he
  | (j, x) :: l => by
    simp only [List.cons_append, geth]
    cases j == k
    · simpa using geth_app_congr he l
    · rfl

theorem hw_mem {o : Oper} {g : Bool} {h : Hp} {k : Nat} (hn : ∀ x, (k, x) ∉ h) : ∀ x, (k, x) ∉ hw o g h := by
  unfold hw
  split
  · exact hn
  · induction h with
    | nil => simp [hg]
    | cons p l ih =>
      obtain ⟨j, x⟩ := p
      have hj : k ≠ j := by rintro rfl; exact hn x (by simp)
      have := ih fun x hx => hn x (by simp [hx])
      rcases x with _ | ⟨b, y⟩ <;> simp only [hg, List.mem_cons, Prod.mk.injEq, not_or] <;> exact fun x => ⟨fun e => hj e.1, this x⟩
theorem hg_free {g : Bool} {k : Nat} : ∀ (h : Hp), hpFree k (hg g h) = hpFree k h
  | [] => rfl
  | (j, some (b, x)) :: l => by have := hg_free (g := g) (k := k) l; simp only [hpFree, hg, List.all_cons] at this ⊢; rw [this]
  | (j, none) :: l => by have := hg_free (g := g) (k := k) l; simp only [hpFree, hg, List.all_cons] at this ⊢; rw [this]
theorem hw_free {o : Oper} {g : Bool} {h : Hp} {k : Nat} : hpFree k (hw o g h) = hpFree k h := by
  unfold hw; split
  · rfl
  · exact hg_free h
theorem wr_refs {o : Oper} {g : Bool} {a : AV} {k : Nat} : (wr o g a).refs k = a.refs k := by
  unfold wr; split
  · rfl
  · simp [AV.refs]

theorem fresh_put {k : Nat} {d : Option Nat} {a : AV} {e : List (Nat × AV)} {hp h : Hp} :
    fresh k ⟨putA d a e, hp ++ h⟩ = ((d.isNone || !a.refs k) && hpFree k hp && fresh k ⟨e, h⟩) := by
  cases d with
  | none => simp only [putA, fresh, hpFree, List.all_append, Option.isNone_none, Bool.true_or, Bool.true_and]; ac_rfl
  | some d => simp only [putA, fresh, hpFree, List.all_append, List.all_cons, Option.isNone_some, Bool.false_or]; ac_rfl

theorem fresh_opnd {k : Nat} {σ : St} (h : fresh k σ = true) (x : Operand) : (opnd σ.e x).refs k = false := by
  unfold opnd
  simp only [fresh, Bool.and_eq_true] at h
  cases x <;> first | exact get_refs h.1 _ | simp [AV.refs]

section
variable {P : Program} {Γ : FuncId → List D → RV} {fz : List Nat} {L : List Oper} {σ σ' : St} {o : Oper} {g : Bool}

theorem gOf_congr {e e' : List (Nat × AV)} (h : ∀ j want oj s, o.guard = some (j, want) → L[j]? = some oj → oj.dst = some s → get e s = get e' s) : gOf L e o = gOf L e' o := by
  unfold gOf
  split
  · rfl
  · rename_i j want hg
    unfold gval
    split
    · rename_i oj hj
      split
      · rename_i s hs; rw [h j want oj s hg hj hs]
      · rfl
    · rfl

theorem outOf_quiet {out : Out} (h : outOf P Γ fz o g σ = some out) (hm : touch o = false) : out.hp = [] := by
  unfold outOf at h
  split at h
  · rename_i f as hc
    unfold callOf at hc
    split at hc
    · rename_i ho; simp [touch, ho] at hm
    · cases hc
  · split at h
    · rename_i hc
      obtain ⟨args, ts, ho, _⟩ := cloOf_some hc
      simp [touch, ho] at hm
    unfold opV at h
    simp only [Bool.cond_eq_ite] at h
    split at h
    all_goals (first | (rename_i ho; simp [touch, ho] at hm; done) | (cases h; done) | (simp only [Option.some.injEq] at h; subst h; rfl) | skip)
    all_goals (first | unfold vPick at h | unfold vBuild at h | unfold vLoad at h | unfold vBin at h | unfold vUn at h | unfold vConv at h | unfold vSlice at h | unfold vFld at h | unfold vIdx at h | unfold vExtr at h | unfold vMin at h | unfold vMax at h | unfold vLen at h | unfold vIndex at h | unfold vNil at h | unfold vFieldV at h | unfold vFunc at h)
    all_goals (try simp only [Bool.cond_eq_ite] at h)
    all_goals (repeat' (split at h))
    all_goals (first | (cases h; done) | (simp only [Option.some.injEq] at h; subst h; rfl))

theorem outD_some {x : OutD} (h : outD P Γ fz o g σ = some x) : ∃ out, outOf P Γ fz o g σ = some out ∧ x.av = out.av ∧ x.hp = out.hp ∧ x.side = out.side := by
  simp only [outD, Option.map_eq_some_iff] at h
  obtain ⟨out, h1, rfl⟩ := h
  exact ⟨out, h1, rfl, rfl, rfl⟩

theorem stepD_spec {τ : St} {p : Prop} (h : stepD P Γ L fz o σ = some (τ, p)) :
    ∃ g x, gOf L σ.e o = some g ∧ outD P Γ fz o g σ = some x ∧ τ = ⟨putA o.dst (wr o g x.av) σ.e, hw o g x.hp ++ σ.h⟩ ∧ p = (g = true → x.side) := by
  unfold stepD at h
  split at h
  · cases h
  · rename_i g hg
    split at h
    · cases h
    · rename_i x hx
      simp only [Option.some.injEq, Prod.mk.injEq] at h
      exact ⟨g, x, hg, hx, h.1.symm, h.2.symm⟩
theorem stepD_mk {x : OutD} (hg : gOf L σ.e o = some g) (hx : outD P Γ fz o g σ = some x) :
    stepD P Γ L fz o σ = some (⟨putA o.dst (wr o g x.av) σ.e, hw o g x.hp ++ σ.h⟩, g = true → x.side) := by
  simp only [stepD, hg, hx]

theorem stepD_congr {τ : St} {p : Prop} (hE : Eqv σ σ') (h : stepD P Γ L fz o σ = some (τ, p)) : ∃ τ', stepD P Γ L fz o σ' = some (τ', p) ∧ Eqv τ τ' := by
  obtain ⟨g, x, h1, h2, rfl, rfl⟩ := stepD_spec h
  have h1' : gOf L σ'.e o = some g := by rw [← h1]; exact (gOf_congr fun _ _ _ s _ _ _ => hE.e s).symm
  have h2' : outD P Γ fz o g σ' = some x := outD_local (fun y _ => opnd_congr y fun s _ => hE.e s) (fun _ _ _ k _ => hE.h k) (fun _ k _ hf => by rw [← hE.f]; exact hf) h2
  refine ⟨_, stepD_mk h1' h2', fun s => ?_, fun k => ?_, fun k => ?_⟩
  · simp only [get_putA, hE.e]
  · exact geth_app_congr (hE.h k) _
  · rw [fresh_put, fresh_put]
    congr 1
    exact hE.f k

def okPair (ops : Array Oper) (x y : Oper) : Bool := x.apart ops y && (!muts x || !touch y) && (!muts y || !touch x)

theorem nm_aux {n k d d' : Nat} (hx : d < n) (hy : d' < n) (h1 : k = d ∨ (10000 + 100 * d ≤ k ∧ k < 10000 + 100 * d + 100)) (h2 : k = d' ∨ (10000 + 100 * d' ≤ k ∧ k < 10000 + 100 * d' + 100)) (hne : d ≠ d')
    (hn : n ≤ 10000 := by assumption) : False := by omega
theorem nm_apart {n k : Nat} {x y : Oper} (hn : n ≤ 10000) (hx : inB n x.dst = true) (hy : inB n y.dst = true) (hd : ∀ d, x.dst = some d → y.dst ≠ some d) (h1 : isNm x k) (h2 : isNm y k) : False := by
  obtain ⟨d, hd1, hk1⟩ := h1
  obtain ⟨d', hd2, hk2⟩ := h2
  simp only [hd1, hd2, inB, decide_eq_true_eq] at hx hy
  have := hd d hd1
  rw [hd2] at this
  have hne : d ≠ d' := fun e => this (by rw [e])
  exact nm_aux hx hy hk1 hk2 hne

theorem mem_looks {ops : Array Oper} {x : Operand} {s : Nat} (hx : x ∈ o.op.operands) (hs : x = .tmp s) : s ∈ o.looksAt ops := by
  subst hs
  simp only [Oper.looksAt, List.mem_append, List.mem_filterMap]
  exact .inl ⟨_, Array.mem_toList_iff.2 hx, rfl⟩
theorem guard_looks {ops : Array Oper} {j s : Nat} {want : Bool} {oj : Oper} (h1 : o.guard = some (j, want)) (h2 : ops.toList[j]? = some oj) (h3 : oj.dst = some s) : s ∈ o.looksAt ops := by
  simp only [Oper.looksAt, List.mem_append, h1]
  right
  have : ops[j]? = some oj := by rw [← Array.getElem?_toList]; exact h2
  simp [this, h3]

theorem stepD_comm {n : Nat} {ops : Array Oper} {x y : Oper} {σ1 σ2 : St} {p q : Prop} (hn : n ≤ 10000) (hx : inB n x.dst = true) (hy : inB n y.dst = true) (hok : okPair ops x y = true)
    (h1 : stepD P Γ ops.toList fz x σ = some (σ1, p)) (h2 : stepD P Γ ops.toList fz y σ1 = some (σ2, q)) :
    ∃ σ1' σ2', stepD P Γ ops.toList fz y σ = some (σ1', q) ∧ stepD P Γ ops.toList fz x σ1' = some (σ2', p) ∧ Eqv σ2 σ2' := by
  simp only [okPair, Bool.and_eq_true, Bool.or_eq_true, Bool.not_eq_true'] at hok
  obtain ⟨⟨hap, hxy⟩, hyx⟩ := hok
  obtain ⟨a1, a2, a3⟩ := Oper.apart_spec hap
  obtain ⟨g, u, e1, e2, rfl, rfl⟩ := stepD_spec h1
  obtain ⟨g', u', f1, f2, rfl, rfl⟩ := stepD_spec h2
  obtain ⟨ou, eo, eav, ehp, _⟩ := outD_some e2
  obtain ⟨ou', fo, fav, fhp, _⟩ := outD_some f2
  have hop : ∀ z ∈ y.op.operands, opnd (putA x.dst (wr x g u.av) σ.e) z = opnd σ.e z := fun z hz => opnd_congr z fun s hs => by
    rw [get_putA, if_neg fun hd => a1 s hd (mem_looks hz hs)]
  have f1' : gOf ops.toList σ.e y = some g' := by
    rw [← f1]
    refine gOf_congr fun j want oj s k1 k2 k3 => ?_
    rw [get_putA, if_neg fun hd => a1 s hd (guard_looks k1 k2 k3)]
  have hxn : ∀ k, touch y = true → (∀ z, (k, z) ∉ u.hp) ∨ (isNm x k ∧ fresh k σ = true) := by
    intro k ht
    by_cases hh : ∀ z, (k, z) ∉ u.hp
    · exact .inl hh
    · simp only [Classical.not_forall, Classical.not_not] at hh
      obtain ⟨z, hz⟩ := hh
      rw [ehp] at hz
      exact .inr (outOf_names eo (hxy.resolve_right (by simp [ht])) k z hz)
  have f2' : outD P Γ fz y g' σ = some u' := by
    refine outD_local (σ := ⟨putA x.dst (wr x g u.av) σ.e, hw x g u.hp ++ σ.h⟩) hop (fun ht z hz k hk => ?_) (fun ht k _ hf => ?_) f2
    · rcases hxn k ht with hh | ⟨_, hh⟩
      · exact geth_app (hw_mem hh)
      · simp only [hop z hz] at hk
        rw [fresh_opnd hh] at hk; cases hk
    · rw [fresh_put, Bool.and_eq_true] at hf
      exact hf.2
  have hyn : ∀ k, touch x = true → (∀ z, (k, z) ∉ u'.hp) ∨ (isNm y k ∧ fresh k σ = true) := by
    intro k ht
    by_cases hh : ∀ z, (k, z) ∉ u'.hp
    · exact .inl hh
    · simp only [Classical.not_forall, Classical.not_not] at hh
      obtain ⟨z, hz⟩ := hh
      rw [fhp] at hz
      obtain ⟨q1, q2⟩ := outOf_names fo (hyx.resolve_right (by simp [ht])) k z hz
      rw [fresh_put, Bool.and_eq_true] at q2
      exact .inr ⟨q1, q2.2⟩
  obtain ⟨ou2, fo2, fav2, fhp2, _⟩ := outD_some f2'
  have e1' : gOf ops.toList (putA y.dst (wr y g' u'.av) σ.e) x = some g := by
    rw [← e1]
    refine gOf_congr fun j want oj s k1 k2 k3 => ?_
    rw [get_putA, if_neg fun hd => a3 s hd (guard_looks k1 k2 k3)]
  have hop' : ∀ z ∈ x.op.operands, opnd σ.e z = opnd (putA y.dst (wr y g' u'.av) σ.e) z := fun z hz => opnd_congr z fun s hs => by
    rw [get_putA, if_neg fun hd => a3 s hd (mem_looks hz hs)]
  have e2' : outD P Γ fz x g ⟨putA y.dst (wr y g' u'.av) σ.e, hw y g' u'.hp ++ σ.h⟩ = some u := by
    refine outD_local (σ := σ) hop' (fun ht z hz k hk => ?_) (fun ht k hk hf => ?_) e2
    · rcases hyn k ht with hh | ⟨_, hh⟩
      · exact (geth_app (hw_mem hh)).symm
      · rw [fresh_opnd hh] at hk; cases hk
    · rw [fresh_put]
      obtain ⟨r1, r2⟩ := outOf_refs fo2 hf (fun hk' => nm_apart hn hx hy a2 hk hk')
      rw [wr_refs, hw_free, fav2, r1, fhp2, r2]
      simpa using hf
  refine ⟨_, _, stepD_mk f1' f2', stepD_mk e1' e2', fun s => ?_, fun k => ?_, fun k => ?_⟩
  · simp only [get_putA]
    by_cases hs : y.dst = some s
    · have : x.dst ≠ some s := fun hd => a2 s hd hs
      simp [hs, this]
    · simp [hs]
  · -- the names of the two are different
    have key : (∀ z, (k, z) ∉ u.hp) ∨ (∀ z, (k, z) ∉ u'.hp) := by
      cases htx : touch x
      · left; rw [ehp, outOf_quiet eo htx]; simp
      · cases hty : touch y
        · right; rw [fhp, outOf_quiet fo hty]; simp
        · rcases hxn k hty with hh | ⟨q1, _⟩
          · exact .inl hh
          · rcases hyn k htx with hh | ⟨q2, _⟩
            · exact .inr hh
            · exact (nm_apart hn hx hy a2 q1 q2).elim
    simp only
    rcases key with hh | hh
    · rw [geth_app (hw_mem hh)]
      exact geth_app_congr (geth_app (hw_mem hh)) _
    · rw [geth_app (hw_mem hh)]
      exact (geth_app_congr (geth_app (hw_mem hh)) _).symm
  · simp only [fresh_put]
    ac_rfl
end
end Go.Eng

namespace Go.Eng
open Go.RowKit


def stepQ (P : Program) (Γ : FuncId → List D → RV) (L : List Oper) (fz : List Nat) (o : Oper) (r : Rn) : Option Rn :=
  match o.guard with
  | none => match outOf P Γ fz o true r.σ with
    | some out => some ⟨⟨putA o.dst out.av r.σ.e, out.hp ++ r.σ.h⟩, (true, out.side) :: r.its⟩
    | none => none
  | some (j, want) => match gval L r.σ.e j want with
    | some g => match outOf P Γ fz o g r.σ with
      | some out => some ⟨⟨putA o.dst (.gd g out.av) r.σ.e, hg g out.hp ++ r.σ.h⟩, (true, g = true → out.side) :: r.its⟩
      | none => none
    | none => none

def runQ (P : Program) (Γ : FuncId → List D → RV) (L : List Oper) (fz : List Nat) : List Oper → Option Rn → Option Rn
  | _, none => none
  | [], some r => some r
  | o :: os, some r => runQ P Γ L fz os (stepQ P Γ L fz o r)

def Lx (P : Program) (Γ : FuncId → List D → RV) (ops : Array Oper) (fz : List Nat) : List Nat → St → St → Prop
  | [], σ, τ => τ = σ
  | i :: l, σ, τ => ∃ o σ' p, ops[i]? = some o ∧ stepD P Γ ops.toList fz o σ = some (σ', p) ∧ p ∧ Lx P Γ ops fz l σ' τ

section
variable {P : Program} {Γ : FuncId → List D → RV} {fz : List Nat} {L : List Oper} {σ σ' : St} {o : Oper} {g : Bool} {ops : Array Oper}

theorem stepQ_D {r r' : Rn} (h : stepQ P Γ L fz o r = some r') : ∃ p, stepD P Γ L fz o r.σ = some (r'.σ, p) ∧ ∃ q, r'.its = (true, q) :: r.its ∧ (q → p) := by
  unfold stepQ at h
  split at h
  · rename_i hg
    split at h
    · rename_i out ho
      simp only [Option.some.injEq] at h; subst h
      refine ⟨true = true → out.side, ?_, _, rfl, fun q _ => q⟩
      simp only [stepD, gOf, hg, outD, ho, Option.map_some, wr, hw]
    · cases h
  · rename_i j want hg
    split at h
    · rename_i g hgv
      split at h
      · rename_i out ho
        simp only [Option.some.injEq] at h; subst h
        refine ⟨g = true → out.side, ?_, _, rfl, fun q => q⟩
        simp only [stepD, gOf, hg, hgv, outD, ho, Option.map_some, wr, hw]
      · cases h
    · cases h

theorem runQ_none : ∀ {os : List Oper}, runQ P Γ L fz os none = none
  | [] => rfl
  | _ :: _ => rfl

theorem runQ_Lx {K : St → Prop} : ∀ (os : List Oper) (k : Nat) (r : Rn), ops.toList.drop k = os → Hold (runQ P Γ ops.toList fz os (some r)) K →
    fin r.its (∃ τ, Lx P Γ ops fz (List.range' k os.length) r.σ τ ∧ K τ)
  | [], k, r, _, h => by
    simp only [runQ, Hold] at h
    exact fin_mono (fun hK => ⟨_, rfl, hK⟩) h
  | o :: os, k, r, hk, h => by
    simp only [runQ] at h
    cases hs : stepQ P Γ ops.toList fz o r with
    | none => rw [hs, runQ_none] at h; exact h.elim
    | some r' =>
      rw [hs] at h
      obtain ⟨p, hD, q, hi, hqp⟩ := stepQ_D hs
      have hk' : ops.toList.drop (k + 1) = os := by rw [← List.drop_drop, hk]; rfl
      have ho : ops[k]? = some o := by
        have := congrArg (·[0]?) hk
        simpa using this
      have ih := runQ_Lx os (k + 1) r' hk' h
      rw [hi] at ih
      simp only [fin] at ih
      refine fin_mono (fun hh => ?_) ih
      obtain ⟨hq, τ, hl, hK⟩ := hh
      exact ⟨τ, by simp only [List.length_cons, List.range'_succ, Lx]; exact ⟨o, r'.σ, p, ho, hD, hqp hq, hl⟩, hK⟩

theorem Lx_congr {τ : St} : ∀ {l : List Nat} {σ σ' : St}, Eqv σ σ' → Lx P Γ ops fz l σ τ → ∃ τ', Eqv τ τ' ∧ Lx P Γ ops fz l σ' τ'
  | [], σ, σ', hE, h => by simp only [Lx] at h; subst h; exact ⟨σ', hE, rfl⟩
  | i :: l, σ, σ', hE, h => by
    simp only [Lx] at h
    obtain ⟨o, σ1, p, ho, hs, hp, hl⟩ := h
    obtain ⟨σ1', hs', hE'⟩ := stepD_congr hE hs
    obtain ⟨τ', h1, h2⟩ := Lx_congr hE' hl
    exact ⟨τ', h1, o, σ1', p, ho, hs', hp, h2⟩

theorem Lx_take {n : Nat} {τ : St} {i : Nat} {oi : Oper} {post : List Nat} (hn : n ≤ 10000) (hin : ∀ (j : Nat) (o : Oper), ops[j]? = some o → inB n o.dst = true) (hi : ops[i]? = some oi) :
    ∀ {pre : List Nat} {σ : St}, (∀ j ∈ pre, ∀ oj, ops[j]? = some oj → okPair ops oj oi = true) → Lx P Γ ops fz (pre ++ i :: post) σ τ →
      ∃ σ' p τ', stepD P Γ ops.toList fz oi σ = some (σ', p) ∧ p ∧ Eqv τ τ' ∧ Lx P Γ ops fz (pre ++ post) σ' τ'
  | [], σ, _, h => by
    simp only [List.nil_append, Lx] at h
    obtain ⟨o, σ', p, ho, hs, hp, hl⟩ := h
    rw [hi] at ho; cases ho
    exact ⟨σ', p, τ, hs, hp, .refl _, hl⟩
  | j :: pre, σ, hok, h => by
    simp only [List.cons_append, Lx] at h
    obtain ⟨o, σ1, q, ho, hs, hq, hl⟩ := h
    obtain ⟨σ2, p, τ', h1, h2, h3, h4⟩ := Lx_take hn hin hi (pre := pre) (fun j hj => hok j (by simp [hj])) hl
    obtain ⟨σ1', σ2', c1, c2, c3⟩ := stepD_comm hn (hin _ _ ho) (hin _ _ hi) (hok j (by simp) o ho) hs h1
    obtain ⟨τ'', d1, d2⟩ := Lx_congr c3 h4
    exact ⟨σ1', p, τ'', c1, h2, h3.trans d1, by simp only [List.cons_append, Lx]; exact ⟨o, σ2', q, ho, c2, hq, d2⟩⟩
end


def edg (o : Oper) : List Nat := (o.after.toList.filter (Region.binds .any)).map (·.on)
def mkM : List Oper → List Nat → List Nat
  | [], m => m
  | o :: l, m => mkM l (m ++ [(edg o).foldl (fun x t => x ||| (1 <<< t) ||| m.getD t 0) 0])
def chkI (ops : Array Oper) (m : List Nat) (i : Nat) (oi : Oper) : Bool :=
  (edg oi).all (fun t => decide (t < i)) && (List.range i).all fun j =>
    bif (m.getD i 0).testBit j then (edg oi).any (fun t => t == j || (decide (j < t) && (m.getD t 0).testBit j))
    else match ops[j]? with
      | some oj => okPair ops oj oi
      | none => true
def chkD (n : Nat) (ops : Array Oper) (m : List Nat) : Bool :=
  decide (n ≤ 10000) && ops.toList.all (fun o => inB n o.dst) && (List.range ops.size).all fun i => match ops[i]? with
    | some oi => chkI ops m i oi
    | none => true

section
variable {n : Nat} {ops : Array Oper} {m : List Nat} {listed : Array Bool}

theorem chkD_spec (h : chkD n ops m = true) : n ≤ 10000 ∧ (∀ (j : Nat) (o : Oper), ops[j]? = some o → inB n o.dst = true) ∧
    ∀ (i : Nat) (oi : Oper), ops[i]? = some oi → (∀ t ∈ edg oi, t < i) ∧ ∀ j, j < i → ((m.getD i 0).testBit j = true ∧ ∃ t ∈ edg oi, t = j ∨ (j < t ∧ (m.getD t 0).testBit j = true)) ∨
      ((m.getD i 0).testBit j = false ∧ ∀ oj, ops[j]? = some oj → okPair ops oj oi = true) := by
  simp only [chkD, Bool.and_eq_true, decide_eq_true_eq, List.all_eq_true, List.mem_range] at h
  obtain ⟨⟨h1, h2⟩, h3⟩ := h
  refine ⟨h1, fun j o hj => h2 o (Array.mem_toList_iff.2 (Array.mem_of_getElem? hj)), fun i oi hi => ?_⟩
  have := h3 i (Array.getElem?_eq_some_iff.1 hi).1
  simp only [hi, chkI, Bool.and_eq_true, List.all_eq_true, decide_eq_true_eq, List.mem_range] at this
  refine ⟨this.1, fun j hj => ?_⟩
  have h4 := this.2 j hj
  cases hb : (m.getD i 0).testBit j
  · right
    rw [hb, cond_false] at h4
    exact ⟨rfl, fun oj hoj => by simpa [hoj] using h4⟩
  · left
    rw [hb, cond_true] at h4
    simp only [List.any_eq_true, Bool.or_eq_true, beq_iff_eq, Bool.and_eq_true, decide_eq_true_eq] at h4
    exact ⟨rfl, h4⟩

theorem mask_listed (h : chkD n ops m = true) (hcl : ∀ (i : Nat) (o : Oper), ops[i]? = some o → listed.getD i false = true → ∀ t ∈ edg o, listed.getD t false = true) :
    ∀ (i : Nat) (oi : Oper), ops[i]? = some oi → (∀ t ∈ edg oi, listed.getD t false = true) → ∀ j, j < i → (m.getD i 0).testBit j = true → listed.getD j false = true := by
  intro i
  induction i using Nat.strongRecOn with
  | _ i ih =>
    intro oi hi hall j hj hb
    obtain ⟨_, _, hs⟩ := chkD_spec h
    obtain ⟨hlt, hs⟩ := hs i oi hi
    rcases hs j hj with ⟨_, t, ht, rfl | ⟨hjt, htb⟩⟩ | ⟨hb', _⟩
    · exact hall t ht
    · have htl := hall t ht
      have hti := hlt t ht
      have hts : t < ops.size := Nat.lt_trans hti (Array.getElem?_eq_some_iff.1 hi).1
      exact ih t hti _ (Array.getElem?_eq_getElem hts) (hcl t _ (Array.getElem?_eq_getElem hts) htl) j hjt htb
    · rw [hb] at hb'; cases hb'

theorem mem_edg {o : Oper} {t : Nat} : t ∈ edg o ↔ ∃ e ∈ o.after, Region.binds .any e = true ∧ e.on = t := by
  simp only [edg, List.mem_map, List.mem_filter, Array.mem_toList_iff]
  constructor
  · rintro ⟨e, ⟨h1, h2⟩, h3⟩; exact ⟨e, h1, h2, h3⟩
  · rintro ⟨e, h1, h2, h3⟩; exact ⟨e, ⟨h1, h2⟩, h3⟩

theorem getD_tf {i : Nat} (h : i < listed.size) : listed.getD i true = listed.getD i false := by
  simp [Array.getElem?_eq_getElem h]
theorem getD_true_lt {i : Nat} (h : listed.getD i true = false) : i < listed.size := by
  rcases Nat.lt_or_ge i listed.size with h' | h'
  · exact h'
  · simp [Array.getElem?_eq_none h'] at h
end

section
variable {C : Ctx} {Γ : FuncId → List D → RV} {fz : List Nat} {ops : Array Oper} {m : List Nat}

theorem stepD_sound {o : Oper} {σ σ' : St} {p : Prop} (hin : inB C.n o.dst = true) (h : stepD C.P Γ ops.toList fz o σ = some (σ', p)) (hp : p) {a : Act} {w : World} (S : Sim C σ a w)
    (K : Act → World → Prop) (Q : Exit → Act → World → Prop) (hK : ∀ a' w', Sim C σ' a' w' → K a' w') :
    if Region.wanted o (yielded ops a.tmps) then o.wp C.P a w K Q else K (a.put o.dst undef) w := by
  obtain ⟨g, x, h1, h2, rfl, rfl⟩ := stepD_spec h
  obtain ⟨out, ho, e1, e2, e3⟩ := outD_some h2
  obtain ⟨ι, S⟩ := S
  cases hgd : o.guard with
  | none =>
    simp only [gOf, hgd, Option.some.injEq] at h1; subst h1
    have hs : stepS C.P Γ C.n ops.toList fz o ⟨σ, []⟩ = some ⟨⟨putA o.dst out.av σ.e, out.hp ++ σ.h⟩, [(false, out.know), (true, out.side)]⟩ := by
      simp only [stepS, hin, cond_true, hgd, ho]
    obtain ⟨its, hi, hstep⟩ := step_sound hs
    simp only [List.append_nil] at hi
    have := hstep True (by rw [← hi]; simp only [fin]; exact ⟨e3 ▸ hp rfl, fun _ => trivial⟩) ι a w S K Q (fun _ ι' a' w' S' => hK a' w' (by
      simp only [wr, hw, hgd, e1, e2]; exact ⟨ι', S'⟩))
    simpa using this
  | some jw =>
    obtain ⟨j, want⟩ := jw
    simp only [gOf, hgd] at h1
    have hs : stepS C.P Γ C.n ops.toList fz o ⟨σ, []⟩ = some ⟨⟨putA o.dst (.gd g out.av) σ.e, hg g out.hp ++ σ.h⟩, [(false, g = true → out.know), (true, g = true → out.side)]⟩ := by
      simp only [stepS, hin, cond_true, hgd, h1, ho]
    obtain ⟨its, hi, hstep⟩ := step_sound hs
    simp only [List.append_nil] at hi
    have := hstep True (by rw [← hi]; simp only [fin]; exact ⟨e3 ▸ hp, fun _ => trivial⟩) ι a w S K Q (fun _ ι' a' w' S' => hK a' w' (by
      simp only [wr, hw, hgd, e1, e2]; exact ⟨ι', S'⟩))
    simpa using this

theorem any_sound {τ : St} {Q : Exit → Act → World → Prop} (hc : chkD C.n ops m = true) (hQ : ∀ a w, Sim C τ a w → Q .normal a w) :
    ∀ (fuel : Nat) (listed : Array Bool) (rem : List Nat) (σ τ' : St) (a : Act) (w : World), listed.size = ops.size → (∀ i, i ∈ rem ↔ i < ops.size ∧ listed.getD i true = false) → rem.Pairwise (· < ·) → rem.length ≤ fuel →
      (∀ (i : Nat) (o : Oper), ops[i]? = some o → listed.getD i false = true → ∀ t ∈ edg o, listed.getD t false = true) →
      Lx C.P Γ ops fz rem σ τ' → Eqv τ' τ → Sim C σ a w → wpAny C.P .any ops Q fuel listed a w := by
  obtain ⟨hn, hin, hpair⟩ := chkD_spec hc
  intro fuel
  induction fuel with
  | zero =>
    intro listed rem σ τ' a w hsz hrem hsrt hlen hcl hl hE S
    have hr : rem = [] := List.eq_nil_of_length_eq_zero (Nat.le_zero.1 hlen)
    subst hr
    simp only [Lx] at hl; subst hl
    refine ⟨?_, hQ _ _ (hE.sim S)⟩
    refine List.eq_nil_iff_forall_not_mem.2 fun i hi => ?_
    obtain ⟨h0, o, ho, _⟩ := mem_ready.1 hi
    exact absurd ((hrem i).2 ⟨(Array.getElem?_eq_some_iff.1 ho).1, h0⟩) (by simp)
  | succ fuel ih =>
    intro listed rem σ τ' a w hsz hrem hsrt hlen hcl hl hE S
    refine ⟨fun hnone => ?_, fun i hi => ?_⟩
    · cases rem with
      | nil => simp only [Lx] at hl; subst hl; exact hQ _ _ (hE.sim S)
      | cons i rest =>
        exfalso
        have hi := (hrem i).1 (by simp)
        have hr : i ∈ Region.ready .any ops listed := by
          refine mem_ready.2 ⟨hi.2, _, Array.getElem?_eq_getElem hi.1, fun e he hb => ?_⟩
          have hlt := (hpair i _ (Array.getElem?_eq_getElem hi.1)).1 e.on (mem_edg.2 ⟨e, he, hb, rfl⟩)
          have hnot : e.on ∉ i :: rest := fun hm => by
            simp only [List.mem_cons] at hm
            rcases hm with hm | hm
            · omega
            · have := (List.pairwise_cons.1 hsrt).1 _ hm; omega
          have hos : e.on < ops.size := Nat.lt_trans hlt hi.1
          rw [← getD_tf (by omega)]
          cases hb' : listed.getD e.on true
          · exact absurd ((hrem e.on).2 ⟨hos, hb'⟩) hnot
          · rfl
        rw [hnone] at hr; cases hr
    · obtain ⟨h0, oi, hoi, hedge⟩ := mem_ready.1 hi
      have his : i < ops.size := (Array.getElem?_eq_some_iff.1 hoi).1
      obtain ⟨pre, post, rfl⟩ := List.append_of_mem ((hrem i).2 ⟨his, h0⟩)
      have hlist : ∀ t ∈ edg oi, listed.getD t false = true := fun t ht => by
        obtain ⟨e, h1, h2, rfl⟩ := mem_edg.1 ht
        exact hedge e h1 h2
      rw [List.pairwise_append] at hsrt
      obtain ⟨s1, s2, s3⟩ := hsrt
      have hok : ∀ j ∈ pre, ∀ oj, ops[j]? = some oj → okPair ops oj oi = true := fun j hj oj hoj => by
        have hji := s3 j hj i (by simp)
        rcases (hpair i oi hoi).2 j hji with ⟨hb, _⟩ | ⟨_, hb⟩
        · have h1 := mask_listed hc hcl i oi hoi hlist j hji hb
          have h2 := ((hrem j).1 (by simp [hj])).2
          rw [getD_tf (getD_true_lt h2)] at h2
          rw [h2] at h1; cases h1
        · exact hb oj hoj
      obtain ⟨σ1, p, τ'', hs, hp, hE', hl'⟩ := Lx_take hn hin hoi hok hl
      unfold wpOp
      simp only [hoi]
      have hrem' : ∀ k, k ∈ pre ++ post ↔ k < ops.size ∧ (listed.setIfInBounds i true).getD k true = false := by
        intro k
        have hne : k ∈ pre ++ post → k ≠ i := by
          intro hk
          simp only [List.mem_append] at hk
          rcases hk with hk | hk
          · have := s3 k hk i (by simp); omega
          · have := (List.pairwise_cons.1 s2).1 k hk; omega
        by_cases hki : k = i
        · subst hki
          refine ⟨fun hk => absurd rfl (hne hk), fun hk => ?_⟩
          have := hk.2
          have hlt : k < listed.size := by omega
          simp [hlt] at this
        · rw [getD_set_ne true (Ne.symm hki), ← hrem k]
          simp [hki]
      have hcl' : ∀ (k : Nat) (o : Oper), ops[k]? = some o → (listed.setIfInBounds i true).getD k false = true → ∀ t ∈ edg o, (listed.setIfInBounds i true).getD t false = true := by
        intro k o hk hlk t ht
        by_cases hki : k = i
        · subst hki
          rw [hoi] at hk; cases hk
          exact getD_set_true (hlist t ht)
        · rw [getD_set_ne false (Ne.symm hki)] at hlk
          exact getD_set_true (hcl k o hk hlk t ht)
      have hsrt' : (pre ++ post).Pairwise (· < ·) := List.pairwise_append.2 ⟨s1, (List.pairwise_cons.1 s2).2, fun x hx y hy => s3 x hx y (by simp [hy])⟩
      have hlen' : (pre ++ post).length ≤ fuel := by simp only [List.length_append, List.length_cons] at hlen ⊢; omega
      have h3 := stepD_sound (hin i oi hoi) hs hp S (wpAny C.P .any ops Q fuel (listed.setIfInBounds i true)) Q (fun a' w' S' =>
        ih (listed.setIfInBounds i true) (pre ++ post) σ1 τ'' a' w' (by simpa using hsz) hrem' hsrt' hlen' hcl' hl' (hE'.symm.trans hE) S')
      split
      · rename_i hw; rw [if_pos hw] at h3; exact .inl h3
      · rename_i hw; rw [if_neg hw] at h3; exact h3

theorem WA_draw {K R : St → Prop} {E : Nat → St → Prop} {σ : St} {id : Nat} (Γ : FuncId → List D → RV) (fz V : List Nat) (hm : C.P.follows .mixedOrders = true) (hc : chkD C.n ops (mkM ops.toList []) = true)
    (h : Hold (runQ C.P Γ ops.toList fz ops.toList (some ⟨σ, []⟩)) (fun σ' => K (gather V σ'))) : WA C (.region id ops true) K R E σ := by
  unfold WA
  intro a w S
  obtain ⟨τ, hl, hK⟩ := runQ_Lx (ops := ops) ops.toList 0 ⟨σ, []⟩ (by simp) h
  refine wp_region_any hm ?_
  have S' : Sim C σ a { w with drawn := w.drawn + 1 } := by
    obtain ⟨ι, S⟩ := S
    exact ⟨ι, S.grow rfl rfl rfl (Nat.le_refl _) fun _ _ => rfl⟩
  refine any_sound (C := C) (τ := τ) hc (fun a w S => ⟨_, hK, S.gather V⟩) ops.size _ (List.range' 0 ops.toList.length) σ τ a _ (by simp) (fun i => ?_) ?_ (by simp) (fun i o hi hlst => ?_) hl (.refl _) S'
  · simp only [List.mem_range'_1, Array.length_toList]
    constructor
    · rintro ⟨_, h⟩
      have h' : i < ops.size := by omega
      exact ⟨h', by simp [h']⟩
    · rintro ⟨h, _⟩; omega
  · exact List.pairwise_lt_range'
  · have hlt := (Array.getElem?_eq_some_iff.1 hi).1
    simp [hlt] at hlst
end
end Go.Eng

namespace Go.Eng
open Go.RowKit

def NxtE {α : Type} (f : α → List (Nat × AV)) (fh : α → Hp) (e0 : List (Nat × AV)) (h0 : Hp) (I : α → Prop) (μ : α → Nat) (m : Nat) (σ' : St) : Prop :=
  ∃ x' ρ, I x' ∧ μ x' < m ∧ Sub ρ σ' ⟨f x' ++ e0, fh x' ++ h0⟩
theorem NxtE.mk {α : Type} {f : α → List (Nat × AV)} {fh : α → Hp} {e0 : List (Nat × AV)} {h0 : Hp} {I : α → Prop} {μ : α → Nat} {m : Nat} {σ' : St} (ρ : List (Nat × Option Nat)) (x' : α) (h3 : Sub ρ σ' ⟨f x' ++ e0, fh x' ++ h0⟩) (h1 : I x') (h2 : μ x' < m) : NxtE f fh e0 h0 I μ m σ' := ⟨x', ρ, h1, h2, h3⟩

theorem WA_loopE {C : Ctx} {K R : St → Prop} {E : Nat → St → Prop} {σ : St} {c : Code} {α : Type} (W WH : List Nat) (f : α → List (Nat × AV)) (fh : α → Hp) (I : α → Prop) (μ : α → Nat) (x0 : α) (ρ0 : List (Nat × Option Nat))
    (h0 : I x0) (hs0 : Sub ρ0 σ ⟨f x0 ++ clr W σ.e, fh x0 ++ clrh WH σ.h⟩)
    (hr : ∀ x, I x → WA C c (NxtE f fh (clr W σ.e) (clrh WH σ.h) I μ (μ x)) R E ⟨f x ++ clr W σ.e, fh x ++ clrh WH σ.h⟩) : WA C (.loop c) K R E σ :=
  WA_loop (fun x => ⟨f x ++ clr W σ.e, fh x ++ clrh WH σ.h⟩) I μ ⟨x0, h0, hs0.sim⟩
    (fun x hx => (hr x hx).mono (fun _ ⟨x', _, h1, h2, h3⟩ => ⟨x', h1, h2, h3.sim⟩) (fun _ h => h) (fun _ _ h => h))
end Go.Eng

namespace Go.Eng
structure Ev (p : Prop) : Prop where
  out : p
structure Is (p X : Prop) : Prop where
  symm : X = p
theorem Is.rfl {p : Prop} : Is p p := ⟨Eq.refl p⟩
theorem Is.ev {p X : Prop} (h : Is p X) (x : X) : Ev p := ⟨h.symm ▸ x⟩
section
variable {C : Ctx} {K R : St → Prop} {E : Nat → St → Prop} {σ : St}
theorem V_draw {id : Nat} {ops : Array Oper} (Γ : FuncId → List D → RV) (fz V : List Nat) (hm : C.P.follows .mixedOrders = true) (hc : chkD C.n ops (mkM ops.toList []) = true)
    (h : Ev (Hold (runQ C.P Γ ops.toList fz ops.toList (some ⟨σ, []⟩)) (fun σ' => K (gather V σ')))) : WA C (.region id ops true) K R E σ := WA_draw Γ fz V hm hc h.out
theorem V_cond {c : Operand} {x y : Code} (h : Ev (Cnd (opnd σ.e c) (WA C x K R E σ) (WA C y K R E σ))) : WA C (.cond c x y) K R E σ := WA_cond h.out
theorem V_exit {i : Nat} (h : Ev (E i σ)) : WA C (.exit i) K R E σ := WA_exit h.out
theorem V_ret (h : Ev (R σ)) : WA C .ret K R E σ := WA_ret h.out
theorem V_next {α : Type} {f : α → List (Nat × AV)} {fh : α → Hp} {e0 : List (Nat × AV)} {h0 : Hp} {I : α → Prop} {μ : α → Nat} {m : Nat} (ρ : List (Nat × Option Nat)) (x' : α) (h3 : Ev (Sub ρ σ ⟨f x' ++ e0, fh x' ++ h0⟩)) (h1 : I x') (h2 : μ x' < m) : NxtE f fh e0 h0 I μ m σ := .mk ρ x' h3.out h1 h2
theorem V_loop {c : Code} {α : Type} (W WH : List Nat) (f : α → List (Nat × AV)) (fh : α → Hp) (I : α → Prop) (μ : α → Nat) (x0 : α) (ρ0 : List (Nat × Option Nat))
    (h0 : I x0) (hs0 : Ev (Sub ρ0 σ ⟨f x0 ++ clr W σ.e, fh x0 ++ clrh WH σ.h⟩))
    (hr : ∀ x, I x → WA C c (NxtE f fh (clr W σ.e) (clrh WH σ.h) I μ (μ x)) R E ⟨f x ++ clr W σ.e, fh x ++ clrh WH σ.h⟩) : WA C (.loop c) K R E σ := WA_loopE W WH f fh I μ x0 ρ0 h0 hs0.out hr
end
end Go.Eng

namespace Go.Eng
open Go.RowKit

inductive PX where
  | ro (b : AV)
  | mu (x x' : Ent) (o m n : Nat)
  | mb (T : Nat) (c c' : List AV)

def PX.av (i : Nat) : PX → AV
  | .ro b => b
  | .mu _ _ o m n => .vw (30000 + i) o m n
  | .mb .. => .pt (30000 + i) 0

def hpI (i : Nat) : List PX → Hp
  | [] => []
  | .ro _ :: l => hpI (i + 1) l
  | .mu x _ _ _ _ :: l => (30000 + i, some (true, x)) :: hpI (i + 1) l
  | .mb T c _ :: l => (30000 + i, some (true, .box T c)) :: hpI (i + 1) l
def hpO (i : Nat) : List PX → Hp
  | [] => []
  | .ro _ :: l => hpO (i + 1) l
  | .mu _ x _ _ _ :: l => (30000 + i, some (true, x)) :: hpO (i + 1) l
  | .mb T _ c :: l => (30000 + i, some (true, .box T c)) :: hpO (i + 1) l

def RepX (ok : Nat → Prop) (ι : Nat → Option (Nat × Nat)) (w : World) (i : Nat) : List PX → List Value → Prop
  | [], vs => vs = []
  | p :: l, vs => ∃ v vs', vs = v :: vs' ∧ RepA ok ι w (p.av i) v ∧ RepX ok ι w (i + 1) l vs'

def FnX (P : Program) (f : FuncId) (ps : List PX) (r : RV) : Prop :=
  ∀ (w : World) (vs : Array Value) (ι : Nat → Option (Nat × Nat)),
    (∀ nm x, geth (hpI 0 ps) nm = some (true, x) → EntOk (· < w.heap.size) (okOf (fun _ => False) (hpI 0 ps) ι w) ι w nm x) →
    (∀ nm nm' x x' b c c', geth (hpI 0 ps) nm = some (true, x) → geth (hpI 0 ps) nm' = some (true, x') → nm ≠ nm' → ι nm = some (b, c) → ι nm' ≠ some (b, c')) →
    RepX (okOf (fun _ => False) (hpI 0 ps) ι w) ι w 0 ps vs.toList →
    Calls P f vs w fun e w' => ∃ v, e = .returned v ∧ (w'.os = w.os ∧ w'.tape = w.tape ∧ w'.output = w.output ∧ w.heap.size ≤ w'.heap.size) ∧
      (∀ b, okOf (fun _ => False) (hpI 0 ps) ι w b → w'.heap[b]? = w.heap[b]?) ∧
      (∀ nm x, geth (hpO 0 ps) nm = some (true, x) → EntOk (fun _ => True) (fun _ => True) ι w' nm x) ∧ RepR (fun _ => True) w' r v []

def pinned (i : Nat) (u : Nat → Value) : List PX → List (Nat × AV)
  | [] => []
  | .ro b :: l => (i, b) :: pinned (i + 1) u l
  | .mu _ _ o m n :: l => (i, .pin (u i) (.vw (30000 + i) o m n)) :: pinned (i + 1) u l
  | .mb .. :: l => (i, .pin (u i) (.pt (30000 + i) 0)) :: pinned (i + 1) u l

def isPin (u : Value) (A : AV) : AV → Prop
  | .pin u' B => u' = u ∧ B = A
  | _ => False
def isEnt (x : Ent) : Option (Bool × Ent) → Prop
  | some (g, y) => g = true ∧ y = x
  | none => False
def outX (u : Nat → Value) (σ : St) (i : Nat) : List PX → Prop
  | [] => True
  | .ro _ :: l => outX u σ (i + 1) l
  | .mu _ x' o m n :: l => (isPin (u i) (.vw (30000 + i) o m n) (get σ.e i) ∧ isEnt x' (geth σ.h (30000 + i))) ∧ outX u σ (i + 1) l
  | .mb T _ c :: l => (isPin (u i) (.pt (30000 + i) 0) (get σ.e i) ∧ isEnt (.box T c) (geth σ.h (30000 + i))) ∧ outX u σ (i + 1) l

mutual
def AV.datP : AV → Bool
  | .dat d => d.plain
  | _ => false
def AV.datPs : List AV → Bool
  | [] => true
  | a :: l => a.datP && AV.datPs l
end
def Ent.plain : Ent → Bool
  | .arr _ _ l => D.plainLL l
  | .box _ c => AV.datPs c
  | .mp .. => false
  | .it .. => false
def AV.dats : List AV → Bool
  | [] => true
  | .dat _ :: l => AV.dats l
  | _ => false
def Ent.isArr : Ent → Bool
  | .arr .. => true
  | _ => false
def PX.plain : PX → Bool
  | .ro _ => true
  | .mu x x' _ _ _ => x.isArr && x'.plain
  | .mb T c c' => AV.dats c && (Ent.box T c').plain
def PX.plains : List PX → Bool
  | [] => true
  | p :: l => p.plain && PX.plains l

section
variable {ok ok' : Nat → Prop} {ι ι' : Nat → Option (Nat × Nat)} {w w' : World}
theorem RepAs_datP : ∀ {c : List AV} {vs : List Value}, AV.datPs c = true → RepAs ok ι w true c vs → RepAs ok' ι' w' true c vs
  | [], vs, _, h => by simpa only [RepAs] using h
  | a :: l, vs, hp, h => by
    simp only [AV.datPs, Bool.and_eq_true] at hp
    simp only [RepAs] at h ⊢
    obtain ⟨v, vs', e, h1, h2, h3⟩ := h
    refine ⟨v, vs', e, ?_, h2, RepAs_datP hp.2 h3⟩
    cases a with
    | dat d => simp only [RepA] at h1 ⊢; exact RepD_plain d v (by simpa only [AV.datP] using hp.1) h1
    | _ => simp [AV.datP] at hp

theorem EntOk.to {own own' : Nat → Prop} {nm nm' : Nat} {x : Ent} (hp : x.plain = true) (ho : ∀ b c, ι nm = some (b, c) → own' b) (hi : ι' nm' = ι nm) (h : EntOk own ok ι w nm x) : EntOk own' ok' ι' w nm' x := by
  cases x with
  | box T c =>
    obtain ⟨b, cap, cur, h1, h2, h3, h4⟩ := h
    exact ⟨b, cap, cur, hi.trans h1, ⟨ho b cap h1, h2.2⟩, h3, RepAs_datP (by simpa only [Ent.plain] using hp) h4⟩
  | arr T n l =>
    rcases h with ⟨h1, h2⟩ | ⟨b, cap, cur, h1, h2, h3, h4, h5, h6, h7⟩
    · exact .inl ⟨hi.trans h1, h2⟩
    · exact .inr ⟨b, cap, cur, hi.trans h1, ho b cap h1, h3, h4, h5, h6, RepDss_plain l _ (by simpa only [Ent.plain] using hp) h7⟩
  | mp n l => simp [Ent.plain] at hp
  | it n l cur => simp [Ent.plain] at hp
theorem EntOk.box_to {own own' : Nat → Prop} {nm T : Nat} {c : List AV} (hp : (Ent.box T c).plain = true) (ho : ∀ b c, ι nm = some (b, c) → own' b) (hi : ∀ b c, ι nm = some (b, c) → ι' nm = some (b, 0)) (h : EntOk own ok ι w nm (.box T c)) : EntOk own' ok' ι' w nm (.box T c) := by
  obtain ⟨b, cap, cur, h1, h2, h3, h4⟩ := h
  exact ⟨b, 0, cur, hi b cap h1, ⟨ho b cap h1, rfl⟩, h3, RepAs_datP (by simpa only [Ent.plain] using hp) h4⟩
end

theorem RepX_length {ok : Nat → Prop} {ι : Nat → Option (Nat × Nat)} {w : World} : ∀ {l : List PX} {i : Nat} {vs : List Value}, RepX ok ι w i l vs → vs.length = l.length
  | [], i, vs, h => by simp only [RepX] at h; simp [h]
  | p :: l, i, vs, h => by
    simp only [RepX] at h
    obtain ⟨v, vs', rfl, _, h⟩ := h
    simp [RepX_length h]

theorem pinned_rep {ok : Nat → Prop} {ι : Nat → Option (Nat × Nat)} {w : World} {u : Nat → Value} : ∀ {l : List PX} {i : Nat} {vs : List Value}, RepX ok ι w i l vs → (∀ j v, vs[j]? = some v → u (i + j) = v) →
    ∀ s, RepA ok ι w (get (pinned i u l) s) (u s)
  | [], i, vs, h, hu, s => by simp only [pinned, get, RepA]
  | p :: l, i, vs, h, hu, s => by
    simp only [RepX] at h
    obtain ⟨v, vs', rfl, h1, h⟩ := h
    have ih := pinned_rep h (u := u) (fun j v hv => by have := hu (j + 1) v (by simpa using hv); rw [← this]; congr 1; omega) s
    have hv : u i = v := hu 0 v (by simp)
    cases p <;> simp only [pinned, get] <;> cases hs : i == s
    all_goals (simp only [cond_false, cond_true]; first | exact ih | skip)
    all_goals (have hs' : i = s := by simpa using hs)
    all_goals subst hs'
    · rw [hv]; simpa only [PX.av] using h1
    · simp only [RepA, hv, true_and]; simpa only [PX.av, RepA] using h1
    · simp only [RepA, hv, true_and]; simpa only [PX.av, RepA] using h1

theorem hpI_ge : ∀ {l : List PX} {i nm : Nat} {p : Bool × Ent}, geth (hpI i l) nm = some p → 30000 + i ≤ nm
  | [], i, nm, p, h => by simp [hpI, geth] at h
  | .ro _ :: l, i, nm, p, h => by simp only [hpI] at h; have := hpI_ge h; omega
  | .mu x x' o m n :: l, i, nm, p, h | .mb T c c' :: l, i, nm, p, h => by
    simp only [hpI, geth] at h
    cases hs : 30000 + i == nm
    · rw [hs, cond_false] at h; have := hpI_ge h; omega
    · have : 30000 + i = nm := by simpa using hs
      omega
theorem hpO_ge : ∀ {l : List PX} {i nm : Nat} {p : Bool × Ent}, geth (hpO i l) nm = some p → 30000 + i ≤ nm
  | [], i, nm, p, h => by simp [hpO, geth] at h
  | .ro _ :: l, i, nm, p, h => by simp only [hpO] at h; have := hpO_ge h; omega
  | .mu x x' o m n :: l, i, nm, p, h | .mb T c c' :: l, i, nm, p, h => by
    simp only [hpO, geth] at h
    cases hs : 30000 + i == nm
    · rw [hs, cond_false] at h; have := hpO_ge h; omega
    · have : 30000 + i = nm := by simpa using hs
      omega

theorem outX_rep {C : Ctx} {σ : St} {ι ι1 : Nat → Option (Nat × Nat)} {a : Act} {w w1 : World} {ok1 : Nat → Prop} {u : Nat → Value} (S : SimI C σ ι a w) : ∀ {l : List PX} {i : Nat} {vs : List Value}, RepX ok1 ι1 w1 i l vs →
    (∀ nm T c b cap, geth (hpI i l) nm = some (true, .box T c) → ι1 nm = some (b, cap) → cap = 0) →
    (∀ j v, vs[j]? = some v → u (i + j) = v) → PX.plains l = true → outX u σ i l → ∀ nm x, geth (hpO i l) nm = some (true, x) → EntOk (fun _ => True) (fun _ => True) ι1 w nm x
  | [], i, vs, h, hz, hu, hp, ho, nm, x, hx => by simp [hpO, geth] at hx
  | .ro _ :: l, i, vs, h, hz, hu, hp, ho, nm, x, hx => by
    simp only [RepX] at h
    obtain ⟨v, vs', rfl, h1, h⟩ := h
    simp only [hpO] at hx
    simp only [PX.plains, Bool.and_eq_true] at hp
    simp only [outX] at ho
    exact outX_rep S h (fun nm T c b cap hg => hz nm T c b cap (by simpa only [hpI] using hg)) (fun j v hv => by have := hu (j + 1) v (by simpa using hv); rw [← this]; congr 1; omega) hp.2 ho nm x hx
  | .mu y y' o m n :: l, i, vs, h, hz, hu, hp, ho, nm, x, hx => by
    simp only [RepX] at h
    obtain ⟨v, vs', rfl, h1, h⟩ := h
    simp only [hpO, geth] at hx
    simp only [PX.plains, Bool.and_eq_true] at hp
    simp only [outX] at ho
    obtain ⟨⟨hpin, hent⟩, ho⟩ := ho
    cases hs : 30000 + i == nm
    · rw [hs, cond_false] at hx
      exact outX_rep S h (fun nm T c b cap hg => hz nm T c b cap (by have := hpI_ge hg; have e : (30000 + i == nm) = false := by simp; omega
                                                                     simp only [hpI, geth, e, cond_false]; exact hg)) (fun j v hv => by have := hu (j + 1) v (by simpa using hv); rw [← this]; congr 1; omega) hp.2 ho nm x hx
    · rw [hs, cond_true] at hx
      have hs' : 30000 + i = nm := by simpa using hs
      subst hs'
      simp only [Option.some.injEq, Prod.mk.injEq, true_and] at hx
      subst hx
      have hv : u i = v := hu 0 v (by simp)
      cases hg : get σ.e i with
      | pin u' B =>
        rw [hg] at hpin
        simp only [isPin] at hpin
        obtain ⟨rfl, rfl⟩ := hpin
        have he := S.env i
        rw [hg] at he
        simp only [RepA] at he
        simp only [PX.av, RepA] at h1
        obtain ⟨he, hr⟩ := he
        rw [he, hv] at hr
        cases hh : geth σ.h (30000 + i) with
        | none => rw [hh] at hent; exact hent.elim
        | some p =>
          obtain ⟨g, z⟩ := p
          rw [hh] at hent
          simp only [isEnt] at hent
          obtain ⟨rfl, rfl⟩ := hent
          have E := S.ent _ _ hh
          have hii : ι1 (30000 + i) = ι (30000 + i) := by
            rcases hr with ⟨e1, e2, _⟩ | ⟨b, c, e1, e2, e3⟩
            · rcases h1 with ⟨f1, f2, _⟩ | ⟨b', c', f1, f2, f3⟩
              · rw [e1, f1]
              · rw [e2] at f2; simp at f2
            · rcases h1 with ⟨f1, f2, _⟩ | ⟨b', c', f1, f2, f3⟩
              · rw [e2] at f2; simp at f2
              · rw [e2] at f2
                simp only [Value.slice.injEq, Option.some.injEq, Addr.mk.injEq] at f2
                rw [e1, f1]
                congr 2
                · exact f2.1.1.symm
                · omega
          exact E.to (by have := hp.1; simp only [PX.plain, Bool.and_eq_true] at this; exact this.2) (fun _ _ _ => trivial) hii
      | _ => rw [hg] at hpin; exact hpin.elim
  | .mb T y y' :: l, i, vs, h, hz, hu, hp, ho, nm, x, hx => by
    simp only [RepX] at h
    obtain ⟨v, vs', rfl, h1, h⟩ := h
    simp only [hpO, geth] at hx
    simp only [PX.plains, Bool.and_eq_true] at hp
    simp only [outX] at ho
    obtain ⟨⟨hpin, hent⟩, ho⟩ := ho
    cases hs : 30000 + i == nm
    · rw [hs, cond_false] at hx
      exact outX_rep S h (fun nm T c b cap hg => hz nm T c b cap (by have := hpI_ge hg; have e : (30000 + i == nm) = false := by simp; omega
                                                                     simp only [hpI, geth, e, cond_false]; exact hg)) (fun j v hv => by have := hu (j + 1) v (by simpa using hv); rw [← this]; congr 1; omega) hp.2 ho nm x hx
    · rw [hs, cond_true] at hx
      have hs' : 30000 + i = nm := by simpa using hs
      subst hs'
      simp only [Option.some.injEq, Prod.mk.injEq, true_and] at hx
      subst hx
      have hv : u i = v := hu 0 v (by simp)
      cases hg : get σ.e i with
      | pin u' B =>
        rw [hg] at hpin
        simp only [isPin] at hpin
        obtain ⟨rfl, rfl⟩ := hpin
        have he := S.env i
        rw [hg] at he
        simp only [RepA] at he
        simp only [PX.av, RepA] at h1
        obtain ⟨he, hr⟩ := he
        rw [he, hv] at hr
        cases hh : geth σ.h (30000 + i) with
        | none => rw [hh] at hent; exact hent.elim
        | some p =>
          obtain ⟨g, z⟩ := p
          rw [hh] at hent
          simp only [isEnt] at hent
          obtain ⟨rfl, rfl⟩ := hent
          have E := S.ent _ _ hh
          obtain ⟨b, c, e1, e2⟩ := hr
          obtain ⟨b', c', f1, f2⟩ := h1
          rw [e2] at f2
          simp only [Value.pointer.injEq, Option.some.injEq, Addr.mk.injEq] at f2
          exact E.box_to (by have := hp.1; simp only [PX.plain, Bool.and_eq_true] at this; exact this.2) (fun _ _ _ => trivial) (fun b1 c1 h1 => by
            rw [e1] at h1; simp only [Option.some.injEq, Prod.mk.injEq] at h1
            have := hz (30000 + i) T y b' c' (by simp [hpI, geth]) f1
            subst this
            rw [f1, ← h1.1, f2.1])
      | _ => rw [hg] at hpin; exact hpin.elim

mutual
def RV.flat : RV → Bool
  | .dat _ => true
  | .own .. => false
  | .agg l => RV.flats l
  | .tup l => RV.flats l
def RV.flats : List RV → Bool
  | [] => true
  | r :: l => r.flat && RV.flats l
end
mutual
theorem retA_flat (h : Hp) : ∀ (x : AV) (r : RV) (n : List Nat) (p : Prop), r.flat = true → retA h x r = some (n, p) → n = []
  | x, r, n, p, hf, hr => by
    unfold retA at hr
    split at hr
    · simp [RV.flat] at hf
    · exact retDs_flat h _ _ n p (by simpa only [RV.flat] using hf) hr
    · simp only [Option.some.injEq, Prod.mk.injEq] at hr; exact hr.1.symm
    · simp [RV.flat] at hf
    · exact retAs_flat h _ _ n p (by simpa only [RV.flat] using hf) hr
    · split at hr
      · split at hr
        · simp only [Option.some.injEq, Prod.mk.injEq] at hr; exact hr.1.symm
        · cases hr
      · cases hr
    · simp only [Option.some.injEq, Prod.mk.injEq] at hr; exact hr.1.symm
    · cases hr
theorem retAs_flat (h : Hp) : ∀ (l : List AV) (rs : List RV) (n : List Nat) (p : Prop), RV.flats rs = true → retAs h l rs = some (n, p) → n = []
  | [], [], n, p, hf, hr => by simp only [retAs, Option.some.injEq, Prod.mk.injEq] at hr; exact hr.1.symm
  | a :: l, r :: rs, n, p, hf, hr => by
    simp only [RV.flats, Bool.and_eq_true] at hf
    simp only [retAs] at hr
    split at hr
    · rename_i n1 p1 n2 p2 e1 e2
      simp only [Option.some.injEq, Prod.mk.injEq] at hr
      have := retA_flat h a r n1 p1 hf.1 e1; have := retAs_flat h l rs n2 p2 hf.2 e2
      subst n1 n2; exact hr.1.symm
    · cases hr
  | [], _ :: _, n, p, hf, hr => by simp [retAs] at hr
  | _ :: _, [], n, p, hf, hr => by simp [retAs] at hr
theorem retDs_flat (h : Hp) : ∀ (l : List D) (rs : List RV) (n : List Nat) (p : Prop), RV.flats rs = true → retDs h l rs = some (n, p) → n = []
  | l, rs, n, p, hf, hr => by
    unfold retDs at hr
    split at hr
    · simp only [Option.some.injEq, Prod.mk.injEq] at hr; exact hr.1.symm
    · split at hr
      · rename_i n2 p2 e2
        simp only [Option.some.injEq, Prod.mk.injEq] at hr
        have := retDs_flat h _ _ n2 p2 (by simp only [RV.flats, Bool.and_eq_true] at hf; exact hf.2) e2
        rw [← hr.1, this]
      · cases hr
    · split at hr
      · rename_i n2 p2 e2
        simp only [Option.some.injEq, Prod.mk.injEq] at hr
        have := retDs_flat h _ _ n2 p2 (by simp only [RV.flats, Bool.and_eq_true] at hf; exact hf.2) e2
        rw [← hr.1, this]
      · cases hr
    · simp [RV.flats, RV.flat] at hf
    · cases hr
end
theorem FnX.of {P : Program} {f : FuncId} {fn : Func} {c : Code} {ps : List PX} {r : RV} (hf : P.funcs[f]? = some fn) (hb : fn.body = some c) (hl : ps.length ≤ fn.ntmps) (hpl : PX.plains ps = true) (hfl : r.flat = true)
    (h : ∀ w0 X u, WA ⟨P, w0, X, fn.ntmps, fun _ => False⟩ c (fun σ => Ret P fn.results.toList r σ ∧ outX u σ 0 ps) (fun σ => Ret P fn.results.toList r σ ∧ outX u σ 0 ps) (fun _ _ => False) ⟨pinned 0 u ps, hpI 0 ps⟩) : FnX P f ps r := by
  intro w vs ι hent hinj hargs
  have hlen := RepX_length hargs
  simp only [Array.length_toList] at hlen
  let X : Nat → Prop := fun b => ∃ nm x c, geth (hpI 0 ps) nm = some (true, x) ∧ ι nm = some (b, c)
  let u : Nat → Value := fun s => (vs ++ Array.replicate (fn.ntmps - vs.size) undef).getD s undef
  have hu : ∀ j v, vs.toList[j]? = some v → u (0 + j) = v := by
    intro j v hv
    have hs : j < vs.size := by
      have := (List.getElem?_eq_some_iff.1 hv).1
      simpa using this
    simp only [Array.getElem?_toList] at hv
    simp [u, Array.getD_eq_getD_getElem?, Array.getElem?_append_left hs, hv]
  have hFe : Ctx.F ⟨P, w, X, fn.ntmps, fun _ => False⟩ = fun _ => False := by funext b; simp [Ctx.F]
  have S0 : SimI ⟨P, w, X, fn.ntmps, fun _ => False⟩ ⟨pinned 0 u ps, hpI 0 ps⟩ ι { tmps := vs ++ Array.replicate (fn.ntmps - vs.size) undef, defers := [] } w := by
    refine ⟨fun s => ?_, fun nm x hx => ?_, hinj, rfl, rfl, rfl, Nat.le_refl _, fun _ _ _ => rfl, rfl, by simp; omega⟩
    · rw [hFe]; exact pinned_rep hargs hu s
    · rw [hFe]
      have E := hent nm x hx
      cases x with
      | box T c =>
        obtain ⟨b, cap, cur, h1, h2, h3, h4⟩ := E
        exact ⟨b, cap, cur, h1, ⟨.inr ⟨nm, _, cap, hx, h1⟩, h2.2⟩, h3, h4⟩
      | arr T n l =>
        rcases E with ⟨h1, h2⟩ | ⟨b, cap, cur, h1, h2, h3, h4, h5, h6, h7⟩
        · exact .inl ⟨h1, h2⟩
        · exact .inr ⟨b, cap, cur, h1, .inr ⟨nm, _, cap, hx, h1⟩, h3, h4, h5, h6, h7⟩
      | mp n l =>
        obtain ⟨b, es, c, h1, h2, h3, h4⟩ := E
        exact ⟨b, es, c, h1, .inr ⟨nm, _, 0, hx, h1⟩, h3, h4⟩
      | it n l cur =>
        obtain ⟨b, m, es, c, sn, h1, h2, h3, h4⟩ := E
        exact ⟨b, m, es, c, sn, h1, .inr ⟨nm, _, 0, hx, h1⟩, h3, h4⟩
  refine calls_of_wp hf hb (wp_mono ((h w X u).app _ w ⟨_, S0⟩) fun e a w' hq => ?_)
  have key : ∀ σ, (Ret P fn.results.toList r σ ∧ outX u σ 0 ps) → Sim ⟨P, w, X, fn.ntmps, fun _ => False⟩ σ a w' → a.defers = [] ∧ ∃ v, (results fn a.tmps).run P w' = .ok v w' ∧ ∃ v', Ending.returned v = .returned v' ∧ (w'.os = w.os ∧ w'.tape = w.tape ∧ w'.output = w.output ∧ w.heap.size ≤ w'.heap.size) ∧
      (∀ b, okOf (fun _ => False) (hpI 0 ps) ι w b → w'.heap[b]? = w.heap[b]?) ∧
      (∀ nm x, geth (hpO 0 ps) nm = some (true, x) → EntOk (fun _ => True) (fun _ => True) ι w' nm x) ∧ RepR (fun _ => True) w' r v' [] := by
    intro σ ⟨hret, hout⟩ S
    obtain ⟨ι', S⟩ := S
    refine ⟨S.def0, ?_⟩
    unfold Ret at hret
    split at hret
    · exact hret.elim
    · rename_i as p has
      obtain ⟨hp, hret⟩ := hret
      obtain ⟨vals, hv1, hv2⟩ := resA_rep S fn.results.toList as p has hp
      have hv1' : (fn.results.toList.mapM fun (x : ResultVar) => (match x with | .tmp t => pure (a.tmps.getD t undef) | .cell t T => do loadVar T (← asAddr (a.tmps.getD t undef)) : Sem Value)).run P w' = .ok vals w' := hv1
      have hres : (results fn a.tmps).run P w' = .ok (if h : vals.toArray.size = 1 then vals.toArray[0] else .tuple vals.toArray) w' := by
        unfold results
        simp only [Array.mapM_eq_mapM_toList, Sem.run_bind]
        have h2 : (do let r ← fn.results.toList.mapM fun (x : ResultVar) => (match x with | .tmp t => pure (a.tmps.getD t undef) | .cell t T => do loadVar T (← asAddr (a.tmps.getD t undef)) : Sem Value); pure r.toArray : Sem (Array Value)).run P w' = .ok vals.toArray w' := by
          simp only [Sem.run_bind, hv1', Result.andThen_ok, Sem.run_pure]
        have h3 : (List.toArray <$> fn.results.toList.mapM fun (x : ResultVar) => (match x with | .tmp t => pure (a.tmps.getD t undef) | .cell t T => do loadVar T (← asAddr (a.tmps.getD t undef)) : Sem Value)).run P w' = .ok vals.toArray w' := h2
        refine (congrArg (fun r => Result.andThen r _) h3).trans ?_
        simp only [Result.andThen_ok, Sem.run_pure]
      have hold : ∀ b, okOf (fun _ => False) (hpI 0 ps) ι w b → w'.heap[b]? = w.heap[b]? := fun b hb => S.old b hb.1 (fun ⟨nm, x, c, h1, h2⟩ => hb.2.1 nm x c h1 h2)
      have hents : ∀ nm x, geth (hpO 0 ps) nm = some (true, x) → EntOk (fun _ => True) (fun _ => True) ι w' nm x := outX_rep S hargs (fun nm T c b cap hg hi => by
        obtain ⟨b', cap', cur, h1, h2, _⟩ := hent nm _ hg
        rw [hi] at h1; simp only [Option.some.injEq, Prod.mk.injEq] at h1
        rw [h1.2]; exact h2.2) hu hpl hout
      split at hret
      · rename_i x
        split at hret
        · rename_i n q hra
          simp only [RepAs] at hv2
          obtain ⟨v, vs', rfl, hx, _, rfl⟩ := hv2
          obtain ⟨h1, h2⟩ := retA_rep S x r v n q hx hra hret.2
          rw [retA_flat σ.h x r n q hfl hra] at h1
          exact ⟨v, by rw [hres]; simp, v, rfl, ⟨S.os, S.tape, S.output, S.size⟩, hold, hents, RepR_tr (fun _ _ => trivial) _ _ _ h1⟩
        · exact hret.elim
      · rename_i r' rs hne
        split at hret
        · rename_i n q hra
          obtain ⟨h1, h2⟩ := retAs_rep S false as rs vals n q hv2 hra hret.2
          rw [retAs_flat σ.h as rs n q (by simpa only [RV.flat] using hfl) hra] at h1
          have hlv := RepAs_length hv2
          have hn1 : ¬ vals.length = 1 := by
            intro h1
            rw [hlv] at h1
            obtain ⟨x, hx⟩ := List.length_eq_one_iff.1 h1
            exact hne x hx
          exact ⟨.tuple vals.toArray, by rw [hres]; simp [hn1], .tuple vals.toArray, rfl, ⟨S.os, S.tape, S.output, S.size⟩, hold, hents, by simp only [RepR]; exact ⟨vals, rfl, RepRs_tr (fun _ _ => trivial) _ _ _ _ h1⟩⟩
        · exact hret.elim
      · exact hret.elim
  cases e with
  | normal => obtain ⟨σ, h1, h2⟩ := hq; exact key σ h1 h2
  | ret => obtain ⟨σ, h1, h2⟩ := hq; exact key σ h1 h2
  | exit i => obtain ⟨σ, h1, h2⟩ := hq; exact h1.elim
  | goto l => exact hq.elim
  | panic ch => exact hq.elim
  | outgrown => exact hq.elim

def argX (h : Hp) (i : Nat) (a : AV) : PX → Option (Prop × List (Nat × Nat × Ent))
  | .ro (.dat d) => match toD h a with
    | some (d', p) => some (d' = d ∧ p, [])
    | none => none
  | .ro (.rp l) => match a with
    | .rp l' => some (l' = l, [])
    | .pt nm o => match geth h nm with
      | some (g', .box _ c) => some (g' = true ∧ c.drop o = l.map AV.dat, [])
      | _ => none
    | _ => none
  | .mu x x' o m n => match a with
    | .vw nm o' m' n' => match geth h nm with
      | some (g', y) => some (g' = true ∧ y = x ∧ o' = o ∧ m' = m ∧ n' = n, [(30000 + i, nm, x')])
      | none => none
    | _ => none
  | .mb T c c' => match a with
    | .pt nm o => match geth h nm with
      | some (g', .box T' c0) => some (g' = true ∧ T' = T ∧ c0 = c ∧ o = 0, [(30000 + i, nm, .box T c')])
      | _ => none
    | _ => none
  | _ => none
def argsX (h : Hp) (i : Nat) : List AV → List PX → Option (Prop × List (Nat × Nat × Ent))
  | [], [] => some (True, [])
  | a :: as, p :: ps => match argX h i a p, argsX h (i + 1) as ps with
    | some (q, l), some (q', l') => some (q ∧ q', l ++ l')
    | _, _ => none
  | _, _ => none
def roX (nms : List Nat) : List AV → List PX → Bool
  | a :: as, .ro _ :: ps => nms.all (fun k => !a.refs k) && roX nms as ps
  | _ :: as, _ :: ps => roX nms as ps
  | _, _ => true
def nmsX (L : List (Nat × Nat × Ent)) : List Nat := L.map fun t => t.2.1
def hpX (L : List (Nat × Nat × Ent)) : Hp := L.map fun t => (t.2.1, some (true, t.2.2))
def renX (L : List (Nat × Nat × Ent)) (ι : Nat → Option (Nat × Nat)) (k : Nat) : Option (Nat × Nat) := match L with
  | [] => none
  | t :: l => if t.1 = k then ι t.2.1 else renX l ι k
def vCallX (P : Program) (Δ : FuncId → List AV → Hp → Option (List PX × RV)) (f : FuncId) (g : Bool) (σ : St) (as : List AV) : Option Out :=
  match Δ f (as.map sp) σ.h with
  | none => none
  | some (ps, r) => match argsX σ.h 0 (as.map sp) ps with
    | none => none
    | some (p, L) => bif noDup (nmsX L) && roX (nmsX L) (as.map sp) ps && r.flat && isFn P f then some ⟨still r, hpX L, pkl g as ∧ p ∧ PX.plains ps = true ∧ r.plain ∧ FnX P f ps r, True⟩ else none

section
variable {C : Ctx} {σ : St} {o : Oper} {g : Bool} {ι : Nat → Option (Nat × Nat)} {a : Act} {w : World}

theorem argX_live {h : Hp} {i : Nat} {A : AV} {p : PX} {q : Prop} {L : List (Nat × Nat × Ent)} (hx : argX h i A p = some (q, L)) (hq : q) : ∀ t ∈ L, t.1 = 30000 + i ∧ A.refs t.2.1 = true ∧ (∃ x, geth h t.2.1 = some (true, x) ∧ geth (hpI i [p]) (30000 + i) = some (true, x)) ∧ geth (hpO i [p]) (30000 + i) = some (true, t.2.2) := by
  unfold argX at hx
  split at hx
  · split at hx
    · simp only [Option.some.injEq, Prod.mk.injEq] at hx; obtain ⟨_, rfl⟩ := hx; simp
    · cases hx
  · split at hx
    · simp only [Option.some.injEq, Prod.mk.injEq] at hx; obtain ⟨_, rfl⟩ := hx; simp
    · split at hx
      · simp only [Option.some.injEq, Prod.mk.injEq] at hx; obtain ⟨_, rfl⟩ := hx; simp
      · cases hx
    · cases hx
  · split at hx
    · split at hx
      · rename_i g' y hg
        simp only [Option.some.injEq, Prod.mk.injEq] at hx
        obtain ⟨rfl, rfl⟩ := hx
        obtain ⟨rfl, rfl, rfl, rfl, rfl⟩ := hq
        intro t ht
        simp only [List.mem_singleton] at ht; subst ht
        exact ⟨rfl, by simp [AV.refs], ⟨_, hg, by simp [hpI, geth]⟩, by simp [hpO, geth]⟩
      · cases hx
    · cases hx
  · split at hx
    · split at hx
      · rename_i g' T' c0 hg
        simp only [Option.some.injEq, Prod.mk.injEq] at hx
        obtain ⟨rfl, rfl⟩ := hx
        obtain ⟨rfl, rfl, rfl, rfl⟩ := hq
        intro t ht
        simp only [List.mem_singleton] at ht; subst ht
        exact ⟨rfl, by simp [AV.refs], ⟨_, hg, by simp [hpI, geth]⟩, by simp [hpO, geth]⟩
      · cases hx
    · cases hx
  · cases hx
end
end Go.Eng

set_option linter.unusedSimpArgs false
set_option linter.unusedVariables false
namespace Go.Eng
open Go.RowKit
open Go.ChangeMaps (setBlock)

def mapOf (P : Program) (T : Nat) : Option (Nat × Nat × Nat) :=
  match P.underlying T with
  | some (.map k e) => match P.underlying k with
    | some (.int .i64) => some (0, k, e)
    | _ => match eqTy P k with
      | some (n + 1) => some (n + 1, k, e)
      | _ => none
  | _ => none
def intsD : List D → Option (List Int)
  | [] => some []
  | .i k :: l => match intsD l with
    | some ks => some (k :: ks)
    | none => none
  | _ => none
def keyOfA (n : Nat) : AV → Option (List Int)
  | .dat (.i k) => bif n == 0 then some [k] else none
  | .dat (.agg ds) => match intsD ds with
    | some ks => bif ks.length == n && !(n == 0) then some ks else none
    | none => none
  | _ => none
def updL (ks : List Int) (d : D) : List (List Int × D) → List (List Int × D)
  | [] => [(ks, d)]
  | p :: l => if p.1 = ks then (ks, d) :: l else p :: updL ks d l
def getL (ks : List Int) : List (List Int × D) → Option D
  | [] => none
  | p :: l => if p.1 = ks then some p.2 else getL ks l

section
variable {P : Program} {ok : Nat → Prop} {ι : Nat → Option (Nat × Nat)} {w : World}

theorem intsD_eq : ∀ {l : List D} {ks : List Int}, intsD l = some ks → l = ks.map D.i
  | [], ks, h => by simp [intsD] at h; subst h; rfl
  | .i k :: l, ks, h => by
    simp only [intsD] at h
    split at h
    · rename_i ks' h'
      simp only [Option.some.injEq] at h; subst h
      rw [intsD_eq h']; rfl
    · cases h
  | .b _ :: l, ks, h | .v _ :: l, ks, h | .agg _ :: l, ks, h | .sl .. :: l, ks, h | .bx _ :: l, ks, h => by simp [intsD] at h
theorem RepDs_ints : ∀ {ks : List Int} {vs : List Value}, RepDs ok w (ks.map D.i) vs ↔ vs = ks.map (Value.int .i64)
  | [], vs => by simp [RepDs]
  | k :: ks, vs => by
    simp only [List.map_cons, RepDs, RepD]
    constructor
    · rintro ⟨v, vs', rfl, rfl, _, h⟩; rw [RepDs_ints.1 h]
    · rintro rfl; exact ⟨_, _, rfl, rfl, rfl, RepDs_ints.2 rfl⟩
theorem keyOfA_rep {n : Nat} {x : AV} {v : Value} {ks : List Int} (hx : RepA ok ι w x v) (h : keyOfA n x = some ks) : KeyOk n ks ∧ v = keyV n ks := by
  unfold keyOfA at h
  split at h
  · rename_i k
    cases hn : n == 0
    · simp [hn] at h
    · simp only [hn, cond_true, Option.some.injEq] at h; subst h
      simp only [beq_iff_eq] at hn; subst hn
      simp only [RepA, RepD] at hx
      exact ⟨by simp [KeyOk], by simpa [keyV] using hx⟩
  · rename_i ds
    split at h
    · rename_i ks' hk
      cases hc : (ks'.length == n && !(n == 0))
      · simp [hc] at h
      · simp only [hc, cond_true, Option.some.injEq] at h; subst h
        simp only [Bool.and_eq_true, beq_iff_eq, Bool.not_eq_true', beq_eq_false_iff_ne] at hc
        obtain ⟨h1, h2⟩ := hc
        have e := intsD_eq hk
        subst e
        simp only [RepA, RepD] at hx
        obtain ⟨vs, rfl, hx⟩ := hx
        refine ⟨by simp [KeyOk, h2, h1], ?_⟩
        rw [RepDs_ints.1 hx]
        unfold keyV
        split
        · exact absurd rfl h2
        · rfl
    · cases h
  · cases h
theorem keyD_rep {n : Nat} {ks : List Int} (h : KeyOk n ks) : RepD ok w (keyD n ks) (keyV n ks) := by
  unfold keyD keyV
  cases n with
  | zero => simp [RepD]
  | succ n =>
    simp only [RepD]
    exact ⟨_, rfl, RepDs_ints.2 rfl⟩

theorem run_checkFs (em : Bool) (m : Nat) (xs : List Int) : ∀ (fs : List Field) (k : Nat), eqFs P fs k = true → k + fs.length = xs.length →
    (forIn fs PUnit.unit fun (f : Field) (_ : PUnit) => (do
      if f.name ≠ "_" then Instr.checkKey em (m + 1) f.type (← part f.type (xs.map (Value.int .i64)).toArray f.offset)
      pure (ForInStep.yield PUnit.unit) : Sem (ForInStep PUnit))).run P w = .ok PUnit.unit w
  | [], k, _, _ => by simp
  | f :: fs, k, hf, hl => by
    simp only [eqFs, Bool.and_eq_true, beq_iff_eq, bne_iff_ne] at hf
    obtain ⟨⟨⟨h1, h2⟩, h3⟩, h4⟩ := hf
    simp only [List.length_cons] at hl
    have hu : ∃ q, P.underlying f.type = some (.int q) := by
      split at h3
      · exact ⟨_, by assumption⟩
      · cases h3
    obtain ⟨q, hu⟩ := hu
    have hx : (xs.map (Value.int .i64)).toArray[f.offset]? = some (.int .i64 xs[k]) := by
      subst h2
      simp [List.getElem?_eq_getElem (show f.offset < xs.length by omega)]
    have hp : (part f.type (xs.map (Value.int .i64)).toArray f.offset).run P w = .ok (.int .i64 xs[k]) w := by
      have hag : (isAgg f.type).run P w = .ok false w := by simp [isAgg, run_underlying hu]
      simp [part, hag, hx]
    have hk : (Instr.checkKey em (m + 1) f.type (.int .i64 xs[k])).run P w = .ok () w := by
      simp [Instr.checkKey, run_underlying hu]
    simp only [List.forIn_cons, Sem.run_bind, h1, ne_eq, not_false_eq_true, if_true, hp, hk, Result.andThen_ok, Sem.run_pure]
    exact run_checkFs em m xs fs (k + 1) h4 (by omega)
theorem mapOf_some {T n k e : Nat} (h : mapOf P T = some (n, k, e)) : P.underlying T = some (.map k e) ∧ ((n = 0 ∧ P.underlying k = some (.int .i64)) ∨ ∃ m fs, n = m + 1 ∧ P.underlying k = some (.struct fs) ∧ eqFs P fs.toList 0 = true ∧ fs.size = n ∧ P.stoodInHeld k = false) := by
  unfold mapOf at h
  split at h
  · rename_i k' e' hu
    split at h
    · rename_i hk
      simp only [Option.some.injEq, Prod.mk.injEq] at h
      obtain ⟨rfl, rfl, rfl⟩ := h
      exact ⟨hu, .inl ⟨rfl, hk⟩⟩
    · split at h
      · rename_i m hm
        simp only [Option.some.injEq, Prod.mk.injEq] at h
        obtain ⟨rfl, rfl, rfl⟩ := h
        unfold eqTy at hm
        split at hm
        · rename_i fs hk
          cases hc : (eqFs P fs.toList 0 && !P.stoodInHeld k' && !P.eqGuardType P.depth k')
          · simp [hc] at hm
          · simp only [hc, cond_true, Option.some.injEq] at hm
            simp only [Bool.and_eq_true, Bool.not_eq_true'] at hc
            exact ⟨hu, .inr ⟨m, fs, rfl, hk, hc.1.1, hm, hc.1.2⟩⟩
        · cases hm
      · cases h
  · cases h
theorem run_checkKeyN {T n k e : Nat} (h : mapOf P T = some (n, k, e)) {ks : List Int} (hk : KeyOk n ks) (em : Bool) (N : Nat) : (Instr.checkKey em (N + 2) k (keyV n ks)).run P w = .ok () w := by
  obtain ⟨_, ⟨rfl, hu⟩ | ⟨m, fs, rfl, hu, h1, h2, h3⟩⟩ := mapOf_some h
  · simp [keyV, Instr.checkKey, run_underlying hu]
  · simp only [KeyOk, Nat.add_eq_zero_iff, Nat.one_ne_zero, and_false, if_false] at hk
    have := run_checkFs (P := P) (w := w) em N ks fs.toList 0 h1 (by simp; omega)
    rw [Instr.checkKey]
    simp only [keyV, Sem.run_bind, run_underlying hu, Result.andThen_ok]
    rw [← Array.forIn_toList]
    simp at this ⊢
    rw [this]; rfl
theorem run_checkKeyK {T n k e : Nat} (h : mapOf P T = some (n, k, e)) {ks : List Int} (hk : KeyOk n ks) (em : Bool) : (Instr.checkKey em 10000 k (keyV n ks)).run P w = .ok () w :=
  run_checkKeyN h hk em 9998
theorem eqL_ints : ∀ {a b : List Int}, a.length = b.length → eqL (a.map D.i) (b.map D.i) = some (decide (b = a))
  | [], [], _ => rfl
  | x :: a, y :: b, h => by
    simp only [List.map_cons, eqL, eqL_ints (a := a) (b := b) (by simpa using h), Option.map_some, Option.some.injEq]
    rw [Bool.eq_iff_iff]
    simp only [Bool.and_eq_true, beq_iff_eq, decide_eq_true_eq, List.cons.injEq]
    constructor
    · rintro ⟨rfl, rfl⟩; exact ⟨rfl, rfl⟩
    · rintro ⟨rfl, rfl⟩; exact ⟨rfl, rfl⟩
def idxE (ks : List Int) : List (List Int × D) → Option Nat
  | [] => none
  | p :: l => if p.1 = ks then some 0 else (idxE ks l).map (· + 1)
theorem run_findK {T n k e : Nat} (h : mapOf P T = some (n, k, e)) {ks : List Int} (hk : KeyOk n ks) : ∀ {l : List (List Int × D)} {es : List MapEntry} (i : Nat), RepEs ok w n l es →
    (n = 0 → Instr.findNow (.int .i64) (keyV n ks) es i = some ((idxE ks l).map fun j => (i + j, (es.getD j default).val))) ∧
    (n ≠ 0 → (Instr.findAsking k (keyV n ks) es i).run P w = .ok ((idxE ks l).map fun j => (i + j, (es.getD j default).val)) w)
  | [], es, i, hr => by
    simp only [RepEs] at hr; subst hr
    exact ⟨fun _ => by simp [Instr.findNow, idxE], fun _ => by simp [Instr.findAsking, idxE]⟩
  | p :: l, es, i, hr => by
    obtain ⟨e0, es', rfl, h1, h2, h3, h4⟩ := hr
    obtain ⟨i1, i2⟩ := run_findK h hk (l := l) (es := es') (i + 1) h4
    have hmap : (Option.map (fun j => (i + j, ((e0 :: es').getD j default).val)) ((idxE ks l).map (· + 1))) = ((idxE ks l).map fun j => (i + 1 + j, (es'.getD j default).val)) := by
      cases idxE ks l with
      | none => rfl
      | some j => simp only [Option.map_some, List.getD_cons_succ]; congr 2; omega
    constructor
    · intro hn
      have i1' := i1 hn
      subst hn
      have hkk := hk
      simp only [KeyOk, if_true] at hk h1
      obtain ⟨x, rfl⟩ := List.length_eq_one_iff.1 hk
      obtain ⟨y, hy⟩ := List.length_eq_one_iff.1 h1
      simp only [Instr.findNow, h2, hy, keyV, List.headD_cons, Instr.sameNow, if_true]
      by_cases hxy : x = y
      · subst hxy
        simp [idxE, hy]
      · have : (x == y) = false := by simpa using hxy
        rw [this]
        simp only [idxE, hy, List.cons.injEq, and_true, show ¬ y = x from fun e => hxy e.symm, if_false]
        rw [hmap, ← i1']
        rfl
    · intro hn
      have i2' := i2 hn
      obtain ⟨_, ⟨rfl, _⟩ | ⟨m, fs, rfl, hu, g1, g2, g3⟩⟩ := mapOf_some h
      · exact absurd rfl hn
      · simp only [KeyOk, Nat.add_eq_zero_iff, Nat.one_ne_zero, and_false, if_false] at hk h1
        have hfs : P.fieldsOf k = fs := by simp [Program.fieldsOf, hu]
        have he := run_equalIn_struct (P := P) w 9999 k (ks.map (Value.int .i64)).toArray (p.1.map (Value.int .i64)).toArray (by rw [hfs]; exact hu) g3
        rw [hfs, run_eqFields (ok := fun _ => True) 9998 fs.toList (ks.map D.i) (p.1.map D.i) 0 _ _ _ w g1 (by simp; omega) (eqL_ints (by omega)) (by simpa using RepDs_ints.2 rfl) (by simpa using RepDs_ints.2 rfl)] at he
        have heq : (Op.equal k (keyV (m + 1) ks) e0.key).run P w = .ok (decide (p.1 = ks)) w := by
          rw [h2]; exact he
        simp only [Instr.findAsking, Sem.run_bind, heq, Result.andThen_ok]
        by_cases hp : p.1 = ks
        · simp [hp, idxE]
        · simp only [hp, decide_false, Bool.false_eq_true, if_false, idxE]
          rw [hmap]
          exact i2'
theorem run_findKeyK {T n k e : Nat} (h : mapOf P T = some (n, k, e)) {ks : List Int} (hk : KeyOk n ks) {l : List (List Int × D)} {es : List MapEntry} (hr : RepEs ok w n l es) :
    (Instr.findKey k (keyV n ks) es).run P w = .ok ((idxE ks l).map fun j => (j, (es.getD j default).val)) w := by
  obtain ⟨f1, f2⟩ := run_findK h hk 0 hr
  simp only [Nat.zero_add] at f1 f2
  obtain ⟨_, ⟨rfl, hu⟩ | ⟨m, fs, rfl, hu, g1, g2, g3⟩⟩ := mapOf_some h
  · simp only [Instr.findKey, Sem.run_bind, run_underlying hu, Result.andThen_ok, f1 rfl, Sem.run_pure]
  · have f2' := f2 (by omega)
    simp only [Instr.findKey, Sem.run_bind, run_underlying hu, Result.andThen_ok]
    cases es with
    | nil =>
      cases l with
      | nil => simp [Instr.findNow, idxE]
      | cons p l => obtain ⟨_, _, h, _⟩ := hr; cases h
    | cons e0 es' => simpa only [Instr.findNow, Instr.sameNow] using f2'
theorem sameBits_int (N : Nat) (x : Int) : Instr.sameBits N (.int .i64 x) (.int .i64 x) = true := by
  unfold Instr.sameBits
  simp
theorem zip_same (N : Nat) : ∀ (ks : List Int), (((ks.map (Value.int .i64)).zip (ks.map (Value.int .i64))).all fun (x, y) => Instr.sameBits N x y) = true
  | [] => rfl
  | x :: l => by
    rw [List.map_cons, List.zip_cons_cons, List.all_cons, zip_same N l]
    simp only [sameBits_int, Bool.and_true]
theorem sameBits_key (n N : Nat) (ks : List Int) : Instr.sameBits (N + 1) (keyV n ks) (keyV n ks) = true := by
  unfold keyV
  split
  · exact sameBits_int _ _
  · rw [Instr.sameBits]
    simp only [beq_self_eq_true, Bool.true_and]
    exact zip_same N ks
theorem run_staysK {n : Nat} (ks : List Int) : (Instr.keyThatStays (keyV n ks) (keyV n ks)).run P w = .ok (keyV n ks) w := by
  have hs : Instr.sameBits 10000 (keyV n ks) (keyV n ks) = true := sameBits_key n 9999 ks
  simp only [Instr.keyThatStays, hs, if_true, Sem.run_pure]
end

def vMkM (d : Nat) (n : Nat) (σ : St) : Option Out :=
  bif fresh d σ then some ⟨.mp d, [(d, some (true, .mp n []))], True, True⟩ else none
def vUpd (P : Program) (T : Nat) (g : Bool) (σ : St) (x y z : AV) : Option Out :=
  match sp x, sp z, mapOf P T with
  | .mp nm, .dat d, some (n, _, _) => match geth σ.h nm, keyOfA n (sp y) with
    | some (g', .mp n' l), some ks => bif n == n' then some ⟨.un, [(nm, some (true, .mp n (updL ks d l)))], pk g x ∧ pk g y ∧ pk g z ∧ g' = true, True⟩ else none
    | _, _ => none
  | _, _, _ => none
def vLkp (P : Program) (T : Nat) (g c : Bool) (σ : St) (x y : AV) : Option Out :=
  match sp x, mapOf P T with
  | .mp nm, some (n, _, e) => match geth σ.h nm, keyOfA n (sp y), zC P e with
    | some (g', .mp n' l), some ks, some [z] => bif n == n' && !isAg P e then
        some ⟨bif c then .tup [.dat ((getL ks l).getD z), .dat (.b (getL ks l).isSome)] else .dat ((getL ks l).getD z), [], pk g x ∧ pk g y ∧ g' = true, True⟩ else none
    | _, _, _ => none
  | _, _ => none
def vLenM (P : Program) (T : Nat) (g : Bool) (σ : St) (x : AV) : Option Out :=
  match sp x, mapOf P T with
  | .mp nm, some (_, _, _) => match geth σ.h nm with
    | some (g', .mp _ l) => some ⟨.dat (.i (l.length : Int)), [], pk g x ∧ g' = true, True⟩
    | _ => none
  | _, _ => none
def vRng (P : Program) (d T : Nat) (g : Bool) (σ : St) (x : AV) : Option Out :=
  match sp x, mapOf P T with
  | .mp nm, some (_, _, _) => match geth σ.h nm with
    | some (g', .mp n l) => bif fresh d σ && !(d == nm) then some ⟨.pt d 0, [(d, some (true, .it n l none)), (nm, none)], pk g x ∧ g' = true, True⟩ else none
    | _ => none
  | _, _ => none
def vEnt (g : Bool) (σ : St) (x : AV) : Option Out :=
  match sp x with
  | .pt nm 0 => match geth σ.h nm with
    | some (g', .it n _ (some p)) => some ⟨.tup [.dat (keyD n p.1), .dat p.2], [], pk g x ∧ g' = true, True⟩
    | _ => none
  | _ => none

section
variable {C : Ctx} {σ : St} {o : Oper} {g : Bool}
theorem snd_mkM {T d n : Nat} {out : Out} (ho : o.op = .makeMap T none) (h : vMkM d n σ = some out) : Snd C o g σ out := by
  unfold vMkM at h
  cases hf : fresh d σ
  · simp [hf] at h
  · simp only [hf, cond_true, Option.some.injEq] at h; subst h
    intro ι a w S hg hs
    refine ⟨_, w.alloc (.map #[] 0), .map (some w.heap.size), ?_, .inl rfl, trivial, _, S.new (w' := w.alloc (.map #[] 0)) (p := some (w.heap.size, 0)) rfl rfl rfl (by simp) (fun b h => heap_alloc_lt w _ b h) hf (fun b c h => by simp at h; omega) (fun hok hne => ?_), ?_⟩
    · simp only [execOp, ho]; rfl
    · exact ⟨w.heap.size, #[], 0, by simp, .inl S.size, heap_alloc_same w _, rfl, by simp [Borns]⟩
    · simp only [RepA]; exact ⟨w.heap.size, 0, by simp, rfl⟩
theorem RepEs_get {ok : Nat → Prop} {w : World} {n : Nat} {ks : List Int} : ∀ {l : List (List Int × D)} {es : List MapEntry}, RepEs ok w n l es →
    (idxE ks l = none ∧ getL ks l = none) ∨ ∃ j e d, idxE ks l = some j ∧ es[j]? = some e ∧ getL ks l = some d ∧ e.key = keyV n ks ∧ RepD ok w d e.val
  | [], es, h => .inl ⟨rfl, rfl⟩
  | p :: l, es, h => by
    obtain ⟨e, es', rfl, h1, h2, h3, h4⟩ := h
    by_cases hp : p.1 = ks
    · exact .inr ⟨0, e, p.2, by simp [idxE, hp], rfl, by simp [getL, hp], by rw [h2, hp], h3⟩
    · rcases RepEs_get (ks := ks) h4 with ⟨i1, i2⟩ | ⟨j, e', d, i1, i2, i3, i4, i5⟩
      · exact .inl ⟨by simp [idxE, hp, i1], by simp [getL, hp, i2]⟩
      · exact .inr ⟨j + 1, e', d, by simp [idxE, hp, i1], by simpa using i2, by simp [getL, hp, i3], i4, i5⟩
theorem RepEs_new {ok : Nat → Prop} {w : World} {n : Nat} {ks : List Int} {d : D} {v : Value} {c : Nat} (hk : KeyOk n ks) (hv : RepD ok w d v) : ∀ {l : List (List Int × D)} {es : List MapEntry}, RepEs ok w n l es → idxE ks l = none →
    RepEs ok w n (updL ks d l) (es ++ [⟨keyV n ks, v, c⟩])
  | [], es, h, _ => by
    simp only [RepEs] at h; subst h
    exact ⟨_, [], rfl, hk, rfl, hv, rfl⟩
  | p :: l, es, h, hi => by
    obtain ⟨e, es', rfl, h1, h2, h3, h4⟩ := h
    have hp : ¬ p.1 = ks := fun e => by simp [idxE, e] at hi
    simp only [idxE, hp, if_false, Option.map_eq_none_iff] at hi
    simp only [updL, hp, if_false]
    exact ⟨e, _, rfl, h1, h2, h3, RepEs_new hk hv h4 hi⟩
theorem RepEs_upd {ok : Nat → Prop} {w : World} {n : Nat} {ks : List Int} {d : D} {v : Value} (hk : KeyOk n ks) (hv : RepD ok w d v) : ∀ {l : List (List Int × D)} {es : List MapEntry} {j : Nat}, RepEs ok w n l es → idxE ks l = some j →
    RepEs ok w n (updL ks d l) (es.modify j fun e => { e with key := keyV n ks, val := v })
  | [], es, j, h, hi => by simp [idxE] at hi
  | p :: l, es, j, h, hi => by
    obtain ⟨e, es', rfl, h1, h2, h3, h4⟩ := h
    by_cases hp : p.1 = ks
    · simp only [idxE, hp, if_true, Option.some.injEq] at hi; subst hi
      simp only [updL, hp, if_true, List.modify_zero_cons]
      exact ⟨_, es', rfl, hk, rfl, hv, h4⟩
    · simp only [idxE, hp, if_false, Option.map_eq_some_iff] at hi
      obtain ⟨i, hi, rfl⟩ := hi
      simp only [updL, hp, if_false, List.modify_succ_cons]
      exact ⟨e, _, rfl, h1, h2, h3, RepEs_upd hk hv h4 hi⟩
theorem Borns_mod {c j : Nat} {es : List MapEntry} {k v : Value} (h : Borns c es) : Borns c (es.modify j fun e => { e with key := k, val := v }) := by
  have e : ∀ (es : List MapEntry) (j : Nat), (es.modify j fun e => { e with key := k, val := v }).map (·.born) = es.map (·.born) := by
    intro es
    induction es with
    | nil => intro j; simp
    | cons x l ih => intro j; cases j <;> simp [ih]
  have hb : ∀ es : List MapEntry, Borns c es ↔ (∀ b ∈ es.map (·.born), b < c) ∧ (es.map (·.born)).Pairwise (· ≠ ·) := fun es => by
    unfold Borns
    rw [List.pairwise_map]
    simp only [List.mem_map, forall_exists_index, and_imp, forall_apply_eq_imp_iff₂]
  rw [hb, e, ← hb]; exact h
theorem Borns_new {c : Nat} {es : List MapEntry} {k v : Value} (h : Borns c es) : Borns (c + 1) (es ++ [⟨k, v, c⟩]) := by
  refine ⟨fun e he => ?_, ?_⟩
  · simp only [List.mem_append, List.mem_singleton] at he
    rcases he with he | rfl
    · have := h.1 e he; omega
    · exact Nat.lt_succ_self c
  · rw [List.pairwise_append]
    refine ⟨h.2, by simp, fun a ha b hb => ?_⟩
    simp only [List.mem_singleton] at hb; subst hb
    have := h.1 a ha; simp only; omega
theorem snd_upd {T : Nat} {x y z : Operand} {out : Out} (ho : o.op = .mapUpdate T x y z) (h : vUpd C.P T g σ (opnd σ.e x) (opnd σ.e y) (opnd σ.e z) = some out) : Snd C o g σ out := by
  unfold vUpd at h
  split at h
  · rename_i nm d n k e hx hz hm
    split at h
    · rename_i g' n' l ks hh hk
      cases hn : n == n'
      · simp [hn] at h
      · simp only [hn, cond_true, Option.some.injEq] at h; subst h
        simp only [beq_iff_eq] at hn; subst hn
        intro ι a w S hg hs
        obtain ⟨p1, p2, p3, rfl⟩ := hs
        have ex := S.sopnd hg x p1
        have ey := S.sopnd hg y p2
        have ez := S.sopnd hg z p3
        rw [hx] at ex
        rw [hz] at ez
        simp only [RepA] at ex ez
        obtain ⟨b, c0, hi, ex⟩ := ex
        obtain ⟨k1, k2⟩ := keyOfA_rep ey hk
        obtain ⟨b', es, c, h1, h2, h3, h4, h5⟩ := S.ent nm _ hh
        rw [hi] at h1; simp only [Option.some.injEq, Prod.mk.injEq] at h1
        obtain ⟨rfl, rfl⟩ := h1
        obtain ⟨hu, _⟩ := mapOf_some hm
        have hck := run_checkKeyK (w := w) hm k1 false
        have hfk := run_findKeyK hm k1 h4
        have hgo : (getObj b).run C.P w = .ok (.map es c) w := by simp [getObj, Sem.run, h3]
        have fin : ∀ es' c', (setObj b (.map es' c')).run C.P w = .ok () (setBlock w b (.map es' c')) := fun es' c' => by simp [setObj, Sem.run, h3, setBlock]
        rcases RepEs_get (ks := ks) h4 with ⟨i1, i2⟩ | ⟨j, e1, d1, i1, i2, i3, i4, i5⟩
        · rw [i1] at hfk
          refine ⟨.skip, setBlock w b (.map (es.push ⟨keyV n ks, a.eval z, c⟩) (c + 1)), undef, ?_, .inr ⟨rfl, rfl⟩, trivial, ι, S.write (w' := setBlock w b (.map (es.push ⟨keyV n ks, a.eval z, c⟩) (c + 1))) hh hi (Go.ChangeMaps.heap_setBlock_same h3 _) rfl rfl rfl (by simp [setBlock]) (fun k hk => Go.ChangeMaps.heap_setBlock_other h3 _ hk) (fun hok hw => ?_), by simp only [RepA]⟩
          · simp only [execOp, ho, Instr.mapUpdate, Sem.run_bind, run_underlying hu, Result.andThen_ok, ex, k2, hgo, hck, hfk, Option.map_none, fin]
            rfl
          · refine ⟨b, _, _, hi, h2, Go.ChangeMaps.heap_setBlock_same h3 _, ?_, ?_⟩
            · simp only [Array.toList_push]
              exact RepEs_new k1 (RepD.tr hok hw _ _ ez) (RepEs.tr hok hw h4) i1
            · simp only [Array.toList_push]; exact Borns_new h5
        · rw [i1] at hfk
          have i2' : es[j]? = some e1 := by simpa using i2
          have hst := run_staysK (P := C.P) (w := w) (n := n) ks
          refine ⟨.skip, setBlock w b (.map (es.modify j fun e => { e with key := keyV n ks, val := a.eval z }) c), undef, ?_, .inr ⟨rfl, rfl⟩, trivial, ι, S.write (w' := setBlock w b (.map (es.modify j fun e => { e with key := keyV n ks, val := a.eval z }) c)) hh hi (Go.ChangeMaps.heap_setBlock_same h3 _) rfl rfl rfl (by simp [setBlock]) (fun k hk => Go.ChangeMaps.heap_setBlock_other h3 _ hk) (fun hok hw => ?_), by simp only [RepA]⟩
          · simp only [execOp, ho, Instr.mapUpdate, Sem.run_bind, run_underlying hu, Result.andThen_ok, ex, k2, hgo, hck, hfk, Option.map_some, i2', Option.getD_some, i4, hst, fin]
            rfl
          · refine ⟨b, _, _, hi, h2, Go.ChangeMaps.heap_setBlock_same h3 _, ?_, ?_⟩
            · simp only [Array.toList_modify]
              exact RepEs_upd k1 (RepD.tr hok hw _ _ ez) (RepEs.tr hok hw h4) i1
            · simp only [Array.toList_modify]; exact Borns_mod h5
    · cases h
  · cases h
theorem getObj_at {P : Program} {w : World} {b : Nat} {ob : Obj} (h : w.heap[b]? = some ob) (hn : ∀ c T f, ob ≠ .cells c T f) : (getObj b).run P w = .ok ob w := by
  simp only [getObj, Sem.run, h]
theorem RepEs_length {ok : Nat → Prop} {w : World} {n : Nat} : ∀ {l : List (List Int × D)} {es : List MapEntry}, RepEs ok w n l es → es.length = l.length
  | [], es, h => by simp only [RepEs] at h; subst h; rfl
  | p :: l, es, h => by
    obtain ⟨e, es', rfl, _, _, _, h4⟩ := h
    simp [RepEs_length h4]
theorem snd_lenM {T : Nat} {x : Operand} {out : Out} (ho : o.op = .call ⟨.builtin .len, #[x], #[T]⟩) (h : vLenM C.P T g σ (opnd σ.e x) = some out) : Snd C o g σ out := by
  unfold vLenM at h
  split at h
  · rename_i nm n k e hx hm
    split at h
    · rename_i g' n' l hh
      simp only [Option.some.injEq] at h; subst h
      refine Snd.pure fun ι a w S hg hs => ?_
      obtain ⟨p1, rfl⟩ := hs
      have ex := S.sopnd hg x p1
      rw [hx] at ex
      simp only [RepA] at ex
      obtain ⟨b, c0, hi, ex⟩ := ex
      obtain ⟨b', es, cl, h1, h2, h3, h4, h5⟩ := S.ent nm _ hh
      rw [hi] at h1; simp only [Option.some.injEq, Prod.mk.injEq] at h1
      obtain ⟨rfl, rfl⟩ := h1
      obtain ⟨hu, _⟩ := mapOf_some hm
      obtain ⟨cs, hcs⟩ := run_call_builtin (P := C.P) (w := w) (ρ := a.eval) ho
      refine ⟨.int .i64 (es.size : Int), ?_, trivial, ?_⟩
      · rw [hcs]
        have := run_len_map (P := C.P) (w := w) T o.type b es cl (by simp [Program.mapKeyOf, Program.mapElemOf, hu]) h3
        simp [builtin, ex, this, goInt]
      · have := RepEs_length h4
        simp only [Array.length_toList] at this
        simp only [RepA, RepD, this]
    · cases h
  · cases h
theorem snd_rng {T d : Nat} {x : Operand} {out : Out} (ho : o.op = .range T x) (h : vRng C.P d T g σ (opnd σ.e x) = some out) : Snd C o g σ out := by
  unfold vRng at h
  split at h
  · rename_i nm n k e hx hm
    split at h
    · rename_i g' n' l hh
      cases hn : (fresh d σ && !(d == nm))
      · simp [hn] at h
      · simp only [hn, cond_true, Option.some.injEq] at h; subst h
        simp only [Bool.and_eq_true, Bool.not_eq_true', beq_eq_false_iff_ne] at hn
        obtain ⟨hf, hne⟩ := hn
        intro ι a w S hg hs
        obtain ⟨p1, rfl⟩ := hs
        have ex := S.sopnd hg x p1
        rw [hx] at ex
        simp only [RepA] at ex
        obtain ⟨b, c0, hi, ex⟩ := ex
        obtain ⟨b', es, cl, h1, h2, h3, h4, h5⟩ := S.ent nm _ hh
        rw [hi] at h1; simp only [Option.some.injEq, Prod.mk.injEq] at h1
        obtain ⟨rfl, rfl⟩ := h1
        obtain ⟨hu, _⟩ := mapOf_some hm
        have hlt := S.live_lt hh hi
        have hf' : fresh d ⟨σ.e, (nm, none) :: σ.h⟩ = true := by
          simp only [fresh, List.all_cons, Bool.true_and] at hf ⊢; exact hf
        have S1 := S.drop nm
        have hokb : okOf C.F ((nm, none) :: σ.h) ι w b := by
          refine ⟨hlt, fun k x c hk => ?_, C.own_F h2⟩
          simp only [geth] at hk
          cases hkk : nm == k
          · rw [hkk, cond_false] at hk
            have hne' : nm ≠ k := by simpa using hkk
            exact S.inj nm k _ x b 0 c hh hk hne' hi
          · rw [hkk, cond_true] at hk; cases hk
        have hr := run_range_map (P := C.P) w T k e b es cl hu h3
        refine ⟨_, w.alloc (.mapIter (some b) cl #[] cl), .pointer (some ⟨w.heap.size, 0, none⟩), ?_, .inl rfl, trivial, _, S1.new (w' := w.alloc (.mapIter (some b) cl #[] cl)) (p := some (w.heap.size, 0)) rfl rfl rfl (by simp) (fun b h => heap_alloc_lt w _ b h) hf' (fun b c h => by simp at h; omega) (fun hok hne => ?_), ?_⟩
        · simp only [execOp, ho, Sem.run_bind, ex, hr, Result.andThen_ok]
          rfl
        · have hmb : (w.alloc (.mapIter (some b) cl #[] cl)).heap[b]? = some (.map es cl) := (heap_alloc_lt w _ b hlt).trans h3
          refine ⟨w.heap.size, b, es, cl, #[], by simp, .inl S.size, heap_alloc_same w _, hok b hokb, hmb, h5, ?_, trivial⟩
          have e : (es.toList.filter fun e => !(#[] : Array Nat).contains e.born) = es.toList := by
            rw [List.filter_eq_self]; intro x _; simp
          rw [e]
          have h4' : RepEs (okOf C.F ((nm, none) :: σ.h) ι w) w n' l es.toList := RepEs.tr (fun B hB => ⟨hB.1, fun k x c hk => hB.2.1 k x c (by
            simp only [geth] at hk
            cases hkk : nm == k
            · rw [hkk, cond_false] at hk; exact hk
            · rw [hkk, cond_true] at hk; cases hk), hB.2.2⟩) (fun _ _ => rfl) h4
          exact RepEs.tr hok (fun B hB => heap_alloc_lt w _ B hB.1) h4'
        · simp only [RepA]; exact ⟨w.heap.size, 0, by simp, rfl⟩
    · cases h
  · cases h
theorem snd_ent {x : Operand} {out : Out} (ho : o.op = .entry x) (h : vEnt g σ (opnd σ.e x) = some out) : Snd C o g σ out := by
  unfold vEnt at h
  split at h
  · rename_i nm hx
    split at h
    · rename_i g' n l p hh
      simp only [Option.some.injEq] at h; subst h
      refine Snd.pure fun ι a w S hg hs => ?_
      obtain ⟨p1, rfl⟩ := hs
      have ex := S.sopnd hg x p1
      rw [hx] at ex
      simp only [RepA] at ex
      obtain ⟨b, c0, hi, ex⟩ := ex
      obtain ⟨b', m, es, c, sn, h1, h2, h3, h4, h5, h6, h7, h8⟩ := S.ent nm _ hh
      rw [hi] at h1; simp only [Option.some.injEq, Prod.mk.injEq] at h1
      obtain ⟨rfl, rfl⟩ := h1
      obtain ⟨s, e, q1, q2, q3⟩ := h8
      obtain ⟨e', es', q4, q5, q6, q7, q8⟩ := q3
      simp only [List.cons.injEq] at q4
      obtain ⟨rfl, _⟩ := q4
      refine ⟨.tuple #[e.key, e.val], ?_, trivial, ?_⟩
      · have g1 := getObj_at (P := C.P) h3 (by simp)
        have g2 := getObj_at (P := C.P) h5 (by simp)
        simp only [execOp, ho, Instr.entry, ex, Sem.run_bind, g1, Result.andThen_ok, q1, g2, bne_self_eq_false, Bool.false_eq_true, if_false, q2, Sem.run_pure]
      · simp only [RepA]
        refine ⟨[e.key, e.val], rfl, ?_⟩
        simp only [RepAs, RepA]
        exact ⟨_, _, rfl, q6 ▸ keyD_rep q5, by simp, _, _, rfl, q7, by simp, rfl⟩
    · cases h
  · cases h
end
end Go.Eng

