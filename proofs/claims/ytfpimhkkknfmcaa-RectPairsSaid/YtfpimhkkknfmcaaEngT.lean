import Derived.Test.YtfpimhkkknfmcaaEngS
namespace Go.Eng
open Go.RowKit

/-! ### Regions whose order is drawn -/

def gOf (L : List Oper) (e : List (Nat × AV)) (o : Oper) : Option Bool := match o.guard with
  | none => some true
  | some (j, want) => gval L e j want
def wr (o : Oper) (g : Bool) (a : AV) : AV := match o.guard with
  | none => a
  | some _ => .gd g a
def hw (o : Oper) (g : Bool) (h : Hp) : Hp := match o.guard with
  | none => h
  | some _ => hg g h

def stepD (P : Program) (Γ : FuncId → List D → RV) (L : List Oper) (fz : List Nat) (o : Oper) (σ : St) : Option (St × Prop) :=
  match gOf L σ.e o with
  | none => none
  | some g => match outD P Γ fz o g σ with
    | none => none
    | some x => some (⟨putA o.dst (wr o g x.av) σ.e, hw o g x.hp ++ σ.h⟩, g = true → x.side)

structure Eqv (σ σ' : St) : Prop where
  e : ∀ s, get σ.e s = get σ'.e s
  h : ∀ k, geth σ.h k = geth σ'.h k
  f : ∀ k, fresh k σ = fresh k σ'

theorem Eqv.refl (σ : St) : Eqv σ σ := ⟨fun _ => rfl, fun _ => rfl, fun _ => rfl⟩
theorem Eqv.symm {σ σ' : St} (h : Eqv σ σ') : Eqv σ' σ := ⟨fun s => (h.e s).symm, fun s => (h.h s).symm, fun s => (h.f s).symm⟩
theorem Eqv.trans {σ σ' σ'' : St} (h : Eqv σ σ') (h' : Eqv σ' σ'') : Eqv σ σ'' := ⟨fun s => (h.e s).trans (h'.e s), fun s => (h.h s).trans (h'.h s), fun s => (h.f s).trans (h'.f s)⟩

theorem Eqv.sim {C : Ctx} {σ σ' : St} {a : Act} {w : World} (h : Eqv σ σ') (S : Sim C σ a w) : Sim C σ' a w := by
  obtain ⟨ι, S⟩ := S
  have S1 : SimI C ⟨σ'.e, σ.h⟩ ι a w := ⟨fun s => by rw [← h.e]; exact S.env s, S.ent, S.inj, S.os, S.tape, S.output, S.size, S.old, S.def0, S.tms⟩
  exact ⟨ι, S1.hcongr fun k => (h.h k).symm⟩

theorem opnd_congr {e e' : List (Nat × AV)} (x : Operand) (h : ∀ s, x = .tmp s → get e s = get e' s) : opnd e x = opnd e' x := by
  unfold opnd
  cases x <;> first | rfl | exact h _ rfl

theorem get_putA {d : Option Nat} {a : AV} {e : List (Nat × AV)} {s : Nat} : get (putA d a e) s = if d = some s then a else get e s := by
  cases d with
  | none => simp [putA]
  | some d =>
    simp only [putA, get]
    by_cases h : d = s
    · simp [h]
    · have : (d == s) = false := by simpa using h
      simp [h, this]

theorem geth_app {k : Nat} {h' : Hp} : ∀ {h : Hp}, (∀ x, (k, x) ∉ h) → geth (h ++ h') k = geth h' k
  | [], _ => rfl
  | (j, x) :: l, hn => by
    have hj : (j == k) = false := by simp only [beq_eq_false_iff_ne]; rintro rfl; exact hn x (by simp)
    simp only [List.cons_append, geth, hj, cond_false]
    exact geth_app (h := l) fun x hx => hn x (by simp [hx])

theorem geth_app_congr {k : Nat} {h1 h2 : Hp} (he : geth h1 k = geth h2 k) : ∀ (h : Hp), geth (h ++ h1) k = geth (h ++ h2) k
  | [] => he
  | (j, x) :: l => by
    simp only [List.cons_append, geth]
    cases j == k
    · simpa using geth_app_congr he l
    · rfl

theorem hw_mem {o : Oper} {g : Bool} {h : Hp} {k : Nat} (hn : ∀ x, (k, x) ∉ h) : ∀ x, (k, x) ∉ hw o g h := by
  unfold hw
  split
  · exact hn
  · induction h with
    | nil => simp [hg]
    | cons p l ih =>
      obtain ⟨j, x⟩ := p
      have hj : k ≠ j := by rintro rfl; exact hn x (by simp)
      have := ih fun x hx => hn x (by simp [hx])
      rcases x with _ | ⟨b, y⟩ <;> simp only [hg, List.mem_cons, Prod.mk.injEq, not_or] <;> exact fun x => ⟨fun e => hj e.1, this x⟩
theorem hw_nil {o : Oper} {g : Bool} : hw o g [] = [] := by unfold hw; split <;> rfl
theorem hg_free {g : Bool} {k : Nat} : ∀ (h : Hp), hpFree k (hg g h) = hpFree k h
  | [] => rfl
  | (j, some (b, x)) :: l => by have := hg_free (g := g) (k := k) l; simp only [hpFree, hg, List.all_cons] at this ⊢; rw [this]
  | (j, none) :: l => by have := hg_free (g := g) (k := k) l; simp only [hpFree, hg, List.all_cons] at this ⊢; rw [this]
theorem hw_free {o : Oper} {g : Bool} {h : Hp} {k : Nat} : hpFree k (hw o g h) = hpFree k h := by
  unfold hw; split
  · rfl
  · exact hg_free h
theorem wr_refs {o : Oper} {g : Bool} {a : AV} {k : Nat} : (wr o g a).refs k = a.refs k := by
  unfold wr; split
  · rfl
  · simp [AV.refs]

theorem fresh_put {k : Nat} {d : Option Nat} {a : AV} {e : List (Nat × AV)} {hp h : Hp} :
    fresh k ⟨putA d a e, hp ++ h⟩ = ((d.isNone || !a.refs k) && hpFree k hp && fresh k ⟨e, h⟩) := by
  cases d with
  | none => simp only [putA, fresh, hpFree, List.all_append, Option.isNone_none, Bool.true_or, Bool.true_and]; ac_rfl
  | some d => simp only [putA, fresh, hpFree, List.all_append, List.all_cons, Option.isNone_some, Bool.false_or]; ac_rfl

theorem fresh_opnd {k : Nat} {σ : St} (h : fresh k σ = true) (x : Operand) : (opnd σ.e x).refs k = false := by
  unfold opnd
  simp only [fresh, Bool.and_eq_true] at h
  cases x <;> first | exact get_refs h.1 _ | simp [AV.refs]

section
variable {P : Program} {Γ : FuncId → List D → RV} {fz : List Nat} {L : List Oper} {σ σ' : St} {o : Oper} {g : Bool}

theorem gOf_congr {e e' : List (Nat × AV)} (h : ∀ j want oj s, o.guard = some (j, want) → L[j]? = some oj → oj.dst = some s → get e s = get e' s) : gOf L e o = gOf L e' o := by
  unfold gOf
  split
  · rfl
  · rename_i j want hg
    unfold gval
    split
    · rename_i oj hj
      split
      · rename_i s hs; rw [h j want oj s hg hj hs]
      · rfl
    · rfl

/-- What looks at no block makes none. -/
theorem outOf_quiet {out : Out} (h : outOf P Γ fz o g σ = some out) (hm : touch o = false) : out.hp = [] := by
  unfold outOf at h
  split at h
  · rename_i f as hc
    unfold callOf at hc
    split at hc
    · rename_i ho; simp [touch, ho] at hm
    · cases hc
  · unfold opV at h
    simp only [Bool.cond_eq_ite] at h
    split at h
    all_goals (first | (rename_i ho; simp [touch, ho] at hm; done) | (cases h; done) | (simp only [Option.some.injEq] at h; subst h; rfl) | skip)
    all_goals (first | unfold vPick at h | unfold vBuild at h | unfold vLoad at h | unfold vBin at h | unfold vUn at h | unfold vConv at h | unfold vSlice at h | unfold vFld at h | unfold vIdx at h | unfold vExtr at h | unfold vMin at h | unfold vMax at h | unfold vLen at h | unfold vIndex at h)
    all_goals (try simp only [Bool.cond_eq_ite] at h)
    all_goals (repeat' (split at h))
    all_goals (first | (cases h; done) | (simp only [Option.some.injEq] at h; subst h; rfl))

theorem outD_some {x : OutD} (h : outD P Γ fz o g σ = some x) : ∃ out, outOf P Γ fz o g σ = some out ∧ x.av = out.av ∧ x.hp = out.hp ∧ x.side = out.side := by
  simp only [outD, Option.map_eq_some_iff] at h
  obtain ⟨out, h1, rfl⟩ := h
  exact ⟨out, h1, rfl, rfl, rfl⟩

theorem stepD_spec {τ : St} {p : Prop} (h : stepD P Γ L fz o σ = some (τ, p)) :
    ∃ g x, gOf L σ.e o = some g ∧ outD P Γ fz o g σ = some x ∧ τ = ⟨putA o.dst (wr o g x.av) σ.e, hw o g x.hp ++ σ.h⟩ ∧ p = (g = true → x.side) := by
  unfold stepD at h
  split at h
  · cases h
  · rename_i g hg
    split at h
    · cases h
    · rename_i x hx
      simp only [Option.some.injEq, Prod.mk.injEq] at h
      exact ⟨g, x, hg, hx, h.1.symm, h.2.symm⟩
theorem stepD_mk {x : OutD} (hg : gOf L σ.e o = some g) (hx : outD P Γ fz o g σ = some x) :
    stepD P Γ L fz o σ = some (⟨putA o.dst (wr o g x.av) σ.e, hw o g x.hp ++ σ.h⟩, g = true → x.side) := by
  simp only [stepD, hg, hx]

theorem stepD_congr {τ : St} {p : Prop} (hE : Eqv σ σ') (h : stepD P Γ L fz o σ = some (τ, p)) : ∃ τ', stepD P Γ L fz o σ' = some (τ', p) ∧ Eqv τ τ' := by
  obtain ⟨g, x, h1, h2, rfl, rfl⟩ := stepD_spec h
  have h1' : gOf L σ'.e o = some g := by rw [← h1]; exact (gOf_congr fun _ _ _ s _ _ _ => hE.e s).symm
  have h2' : outD P Γ fz o g σ' = some x := outD_local (fun y _ => opnd_congr y fun s _ => hE.e s) (fun _ _ _ k _ => hE.h k) (fun _ k _ hf => by rw [← hE.f]; exact hf) h2
  refine ⟨_, stepD_mk h1' h2', fun s => ?_, fun k => ?_, fun k => ?_⟩
  · simp only [get_putA, hE.e]
  · exact geth_app_congr (hE.h k) _
  · rw [fresh_put, fresh_put]
    congr 1
    exact hE.f k

def okPair (ops : Array Oper) (x y : Oper) : Bool := x.apart ops y && (!muts x || !touch y) && (!muts y || !touch x)

theorem muts_touch (h : touch o = false) : muts o = false := by
  unfold touch at h; unfold muts
  split <;> simp_all

theorem nm_aux {n k d d' : Nat} (hx : d < n) (hy : d' < n) (h1 : k = d ∨ (10000 + 100 * d ≤ k ∧ k < 10000 + 100 * d + 100)) (h2 : k = d' ∨ (10000 + 100 * d' ≤ k ∧ k < 10000 + 100 * d' + 100)) (hne : d ≠ d')
    (hn : n ≤ 10000 := by assumption) : False := by omega
theorem nm_apart {n k : Nat} {x y : Oper} (hn : n ≤ 10000) (hx : inB n x.dst = true) (hy : inB n y.dst = true) (hd : ∀ d, x.dst = some d → y.dst ≠ some d) (h1 : isNm x k) (h2 : isNm y k) : False := by
  obtain ⟨d, hd1, hk1⟩ := h1
  obtain ⟨d', hd2, hk2⟩ := h2
  simp only [hd1, hd2, inB, decide_eq_true_eq] at hx hy
  have := hd d hd1
  rw [hd2] at this
  have hne : d ≠ d' := fun e => this (by rw [e])
  exact nm_aux hx hy hk1 hk2 hne

theorem mem_looks {ops : Array Oper} {x : Operand} {s : Nat} (hx : x ∈ o.op.operands) (hs : x = .tmp s) : s ∈ o.looksAt ops := by
  subst hs
  simp only [Oper.looksAt, List.mem_append, List.mem_filterMap]
  exact .inl ⟨_, Array.mem_toList_iff.2 hx, rfl⟩
theorem guard_looks {ops : Array Oper} {j s : Nat} {want : Bool} {oj : Oper} (h1 : o.guard = some (j, want)) (h2 : ops.toList[j]? = some oj) (h3 : oj.dst = some s) : s ∈ o.looksAt ops := by
  simp only [Oper.looksAt, List.mem_append, h1]
  right
  have : ops[j]? = some oj := by rw [← Array.getElem?_toList]; exact h2
  simp [this, h3]

/-- Two operations side by side. -/
theorem stepD_comm {n : Nat} {ops : Array Oper} {x y : Oper} {σ1 σ2 : St} {p q : Prop} (hn : n ≤ 10000) (hx : inB n x.dst = true) (hy : inB n y.dst = true) (hok : okPair ops x y = true)
    (h1 : stepD P Γ ops.toList fz x σ = some (σ1, p)) (h2 : stepD P Γ ops.toList fz y σ1 = some (σ2, q)) :
    ∃ σ1' σ2', stepD P Γ ops.toList fz y σ = some (σ1', q) ∧ stepD P Γ ops.toList fz x σ1' = some (σ2', p) ∧ Eqv σ2 σ2' := by
  simp only [okPair, Bool.and_eq_true, Bool.or_eq_true, Bool.not_eq_true'] at hok
  obtain ⟨⟨hap, hxy⟩, hyx⟩ := hok
  obtain ⟨a1, a2, a3⟩ := Oper.apart_spec hap
  obtain ⟨g, u, e1, e2, rfl, rfl⟩ := stepD_spec h1
  obtain ⟨g', u', f1, f2, rfl, rfl⟩ := stepD_spec h2
  obtain ⟨ou, eo, eav, ehp, _⟩ := outD_some e2
  obtain ⟨ou', fo, fav, fhp, _⟩ := outD_some f2
  have hop : ∀ z ∈ y.op.operands, opnd (putA x.dst (wr x g u.av) σ.e) z = opnd σ.e z := fun z hz => opnd_congr z fun s hs => by
    rw [get_putA, if_neg fun hd => a1 s hd (mem_looks hz hs)]
  -- y's blocks lie apart from what x reads
  have f1' : gOf ops.toList σ.e y = some g' := by
    rw [← f1]
    refine gOf_congr fun j want oj s k1 k2 k3 => ?_
    rw [get_putA, if_neg fun hd => a1 s hd (guard_looks k1 k2 k3)]
  have hxn : ∀ k, touch y = true → (∀ z, (k, z) ∉ u.hp) ∨ (isNm x k ∧ fresh k σ = true) := by
    intro k ht
    by_cases hh : ∀ z, (k, z) ∉ u.hp
    · exact .inl hh
    · simp only [Classical.not_forall, Classical.not_not] at hh
      obtain ⟨z, hz⟩ := hh
      rw [ehp] at hz
      exact .inr (outOf_names eo (hxy.resolve_right (by simp [ht])) k z hz)
  have f2' : outD P Γ fz y g' σ = some u' := by
    refine outD_local (σ := ⟨putA x.dst (wr x g u.av) σ.e, hw x g u.hp ++ σ.h⟩) hop (fun ht z hz k hk => ?_) (fun ht k _ hf => ?_) f2
    · rcases hxn k ht with hh | ⟨_, hh⟩
      · exact geth_app (hw_mem hh)
      · simp only [hop z hz] at hk
        rw [fresh_opnd hh] at hk; cases hk
    · rw [fresh_put, Bool.and_eq_true] at hf
      exact hf.2
  have hyn : ∀ k, touch x = true → (∀ z, (k, z) ∉ u'.hp) ∨ (isNm y k ∧ fresh k σ = true) := by
    intro k ht
    by_cases hh : ∀ z, (k, z) ∉ u'.hp
    · exact .inl hh
    · simp only [Classical.not_forall, Classical.not_not] at hh
      obtain ⟨z, hz⟩ := hh
      rw [fhp] at hz
      obtain ⟨q1, q2⟩ := outOf_names fo (hyx.resolve_right (by simp [ht])) k z hz
      rw [fresh_put, Bool.and_eq_true] at q2
      exact .inr ⟨q1, q2.2⟩
  obtain ⟨ou2, fo2, fav2, fhp2, _⟩ := outD_some f2'
  have e1' : gOf ops.toList (putA y.dst (wr y g' u'.av) σ.e) x = some g := by
    rw [← e1]
    refine gOf_congr fun j want oj s k1 k2 k3 => ?_
    rw [get_putA, if_neg fun hd => a3 s hd (guard_looks k1 k2 k3)]
  have hop' : ∀ z ∈ x.op.operands, opnd σ.e z = opnd (putA y.dst (wr y g' u'.av) σ.e) z := fun z hz => opnd_congr z fun s hs => by
    rw [get_putA, if_neg fun hd => a3 s hd (mem_looks hz hs)]
  have e2' : outD P Γ fz x g ⟨putA y.dst (wr y g' u'.av) σ.e, hw y g' u'.hp ++ σ.h⟩ = some u := by
    refine outD_local (σ := σ) hop' (fun ht z hz k hk => ?_) (fun ht k hk hf => ?_) e2
    · rcases hyn k ht with hh | ⟨_, hh⟩
      · exact (geth_app (hw_mem hh)).symm
      · rw [fresh_opnd hh] at hk; cases hk
    · rw [fresh_put]
      obtain ⟨r1, r2⟩ := outOf_refs fo2 hf (fun hk' => nm_apart hn hx hy a2 hk hk')
      rw [wr_refs, hw_free, fav2, r1, fhp2, r2]
      simpa using hf
  refine ⟨_, _, stepD_mk f1' f2', stepD_mk e1' e2', fun s => ?_, fun k => ?_, fun k => ?_⟩
  · simp only [get_putA]
    by_cases hs : y.dst = some s
    · have : x.dst ≠ some s := fun hd => a2 s hd hs
      simp [hs, this]
    · simp [hs]
  · -- the names of the two are different
    have key : (∀ z, (k, z) ∉ u.hp) ∨ (∀ z, (k, z) ∉ u'.hp) := by
      cases htx : touch x
      · left; rw [ehp, outOf_quiet eo htx]; simp
      · cases hty : touch y
        · right; rw [fhp, outOf_quiet fo hty]; simp
        · rcases hxn k hty with hh | ⟨q1, _⟩
          · exact .inl hh
          · rcases hyn k htx with hh | ⟨q2, _⟩
            · exact .inr hh
            · exact (nm_apart hn hx hy a2 q1 q2).elim
    simp only
    rcases key with hh | hh
    · rw [geth_app (hw_mem hh)]
      exact geth_app_congr (geth_app (hw_mem hh)) _
    · rw [geth_app (hw_mem hh)]
      exact (geth_app_congr (geth_app (hw_mem hh)) _).symm
  · simp only [fresh_put]
    ac_rfl
end
end Go.Eng
