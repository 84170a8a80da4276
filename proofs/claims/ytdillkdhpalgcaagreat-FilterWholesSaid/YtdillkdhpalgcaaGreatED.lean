import Derived.Test.YtdillkdhpalgcaaGreatEC
set_option linter.unusedSimpArgs false
set_option linter.unusedVariables false
namespace Go.Eng
open Go.RowKit

def hpFree (k : Nat) (h : Hp) : Bool := h.all fun p => match p.2 with
  | none => true
  | some x => !x.2.refs k

section
variable {P : Program} {σ σ' : St} {o : Oper} {g : Bool}

theorem fresh_geth {k nm : Nat} {b : Bool} {x : Ent} (hf : fresh k σ = true) (h : geth σ.h nm = some (b, x)) : x.refs k = false := by
  simp only [fresh, Bool.and_eq_true] at hf
  exact geth_refs hf.2 h

theorem rdA_refs {k sz : Nat} {ag : Bool} {c : List AV} {r : AV} (hc : AV.refsL k c = false) (h : rdA sz ag c = some r) : r.refs k = false := by
  unfold rdA at h
  cases ag
  · simp only [cond_false] at h; exact refsL_get hc h
  · simp only [cond_true] at h
    cases hb : decide (sz ≤ c.length)
    · simp [hb] at h
    · simp only [hb, cond_true, Option.some.injEq] at h; subst h
      exact mkAgg_refs (refsL_take _ hc)
theorem rdD_refs {k sz : Nat} {ag : Bool} {c : List D} {r : AV} (h : rdD sz ag c = some r) : r.refs k = false := by
  unfold rdD at h
  cases ag
  · simp only [cond_false] at h
    split at h
    · simp only [Option.some.injEq] at h; subst h; rfl
    · cases h
  · simp only [cond_true] at h
    cases hb : decide (sz ≤ c.length)
    · simp [hb] at h
    · simp only [hb, cond_true, Option.some.injEq] at h; subst h; rfl

theorem opV_refs {fz : Bool} {out : Out} {k : Nat} (h : opV P fz o g σ = some out) (hf : fresh k σ = true) (hn : ¬ isNm o k) : out.av.refs k = false ∧ hpFree k out.hp = true := by
  have hop : ∀ x, (opnd σ.e x).refs k = false := opnd_refs hf
  have hsp : ∀ x, (sp (opnd σ.e x)).refs k = false := fun x => sp_refs (hop x)
  have hne : ∀ d, o.dst = some d → (d == k) = false := fun d hd => by
    simp only [beq_eq_false_iff_ne]; intro e; exact hn ⟨d, hd, .inl e.symm⟩
  unfold opV at h
  split at h
  · simp only [Option.some.injEq] at h; subst h; exact ⟨hop _, rfl⟩
  · simp only [Option.some.injEq] at h; subst h; exact ⟨hop _, rfl⟩
  · unfold vPick at h
    split at h
    · simp only [Option.some.injEq] at h; subst h; exact ⟨rfl, rfl⟩
    · cases h
  · split at h
    · rename_i d hd
      unfold vAlloc at h
      split at h
      · cases hfr : fresh d σ
        · simp [hfr] at h
        · simp only [hfr, cond_true, Option.some.injEq] at h; subst h
          exact ⟨by simp [AV.refs]; simpa using hne d hd, by simp [hpFree, Ent.refs, refsL_dat]⟩
      · cases h
    · cases h
  · split at h
    · rename_i d hd
      unfold vBox at h
      split at h
      · rename_i c hc
        cases hfr : fresh d σ
        · simp [hfr] at h
        · simp only [hfr, cond_true, Option.some.injEq] at h; subst h
          exact ⟨by simp [AV.refs]; simpa using hne d hd, by simp [hpFree, Ent.refs, cellsOf_refs hc (hsp _)]⟩
      · cases h
    · cases h
  · rename_i T ps _
    unfold vBuild at h
    split at h
    · split at h
      · rename_i l hb
        simp only [Option.some.injEq] at h; subst h
        refine ⟨mkAgg_refs (bld_refs (fun p hp => ?_) refsL_dat hb), rfl⟩
        simp only [partsA, List.mem_map] at hp
        obtain ⟨q, _, rfl⟩ := hp
        exact hop q.2
      · cases h
    · cases h
  · split at h
    · rename_i d hd
      unfold vBuildS at h
      split at h
      · cases h
      · split at h
        · cases h
        · simp only [Bool.cond_eq_ite] at h
          split at h
          · split at h
            · cases h
            · split at h
              · simp only [Option.some.injEq] at h; subst h; exact ⟨rfl, rfl⟩
              · split at h
                · simp only [Option.some.injEq] at h; subst h
                  exact ⟨by simp [AV.refs]; simpa using hne d hd, by simp [hpFree, Ent.refs]⟩
                · cases h
          · cases h
    · cases h
  · rename_i T x _
    unfold vLoad at h
    split at h
    · cases h
    · split at h
      · split at h
        · rename_i hg
          split at h
          · rename_i r hr
            simp only [Option.some.injEq] at h; subst h
            refine ⟨rdA_refs (refsL_drop _ ?_) hr, rfl⟩
            exact fresh_geth hf hg
          · cases h
        · cases h
      · split at h
        · rename_i r hr
          simp only [Option.some.injEq] at h; subst h
          exact ⟨rdD_refs hr, rfl⟩
        · cases h
      · split at h
        · split at h
          · rename_i r hr
            simp only [Bool.cond_eq_ite] at h
            split at h
            · simp only [Option.some.injEq] at h; subst h
              exact ⟨rdD_refs hr, rfl⟩
            · cases h
          · cases h
        · cases h
      · split at h
        · rename_i r hr
          simp only [Option.some.injEq] at h; subst h
          exact ⟨rdD_refs hr, rfl⟩
        · cases h
      · cases h
  · rename_i T x y _
    unfold vStore at h
    split at h
    · rename_i sz _ cs _ hcs
      simp only [Bool.cond_eq_ite] at h
      split at h
      · split at h
        · split at h
          · rename_i hg
            split at h
            · simp only [Option.some.injEq] at h; subst h
              exact ⟨rfl, by simp [hpFree, Ent.refs, refsL_spl (fresh_geth hf hg) (cellsOf_refs hcs (hsp y))]⟩
            · cases h
          · cases h
        · split at h
          · split at h
            · simp only [Option.some.injEq] at h; subst h
              exact ⟨rfl, by simp [hpFree, Ent.refs]⟩
            · cases h
          · cases h
        · cases h
      · cases h
    · cases h
  · unfold vBin at h
    simp only [Bool.cond_eq_ite] at h
    repeat' (split at h)
    all_goals (first | (cases h; done) | (simp only [Option.some.injEq] at h; subst h; exact ⟨rfl, rfl⟩))
  · unfold vUn at h
    repeat' (split at h)
    all_goals (first | (cases h; done) | (simp only [Option.some.injEq] at h; subst h; exact ⟨rfl, rfl⟩))
  · unfold vConv at h
    simp only [Bool.cond_eq_ite] at h
    repeat' (split at h)
    all_goals (first | (cases h; done) | (simp only [Option.some.injEq] at h; subst h; exact ⟨rfl, rfl⟩))
  · split at h
    · rename_i d hd
      unfold vMake at h
      simp only [Bool.cond_eq_ite] at h
      repeat' (split at h)
      all_goals (first | (cases h; done) | (simp only [Option.some.injEq] at h; subst h; exact ⟨rfl, rfl⟩) | (simp only [Option.some.injEq] at h; subst h; exact ⟨by simp [AV.refs]; simpa using hne d hd, by simp [hpFree, Ent.refs]⟩))
    · cases h
  · rename_i T x lo hi _
    unfold vSlice at h
    split at h
    · split at h
      · rename_i nm oo m n hx
        have hnm : (nm == k) = false := by have := hsp x; rw [hx] at this; simpa only [AV.refs] using this
        split at h
        · simp only [Bool.cond_eq_ite] at h
          split at h
          · simp only [Option.some.injEq] at h; subst h; exact ⟨by simpa only [AV.refs] using hnm, rfl⟩
          · cases h
        · cases h
      · split at h
        · simp only [Bool.cond_eq_ite] at h
          split at h
          · simp only [Option.some.injEq] at h; subst h; exact ⟨rfl, rfl⟩
          · cases h
        · cases h
      · cases h
    · cases h
  · rename_i T x f _
    unfold vFld at h
    split at h
    · cases h
    · simp only [Bool.cond_eq_ite] at h
      split at h
      · cases h
      · split at h
        · rename_i nm oo hx
          have := hsp x; rw [hx] at this
          simp only [Option.some.injEq] at h; subst h; exact ⟨by simpa only [AV.refs] using this, rfl⟩
        · rename_i nm k f n hx
          have := hsp x; rw [hx] at this
          simp only [Option.some.injEq] at h; subst h; exact ⟨by simpa only [AV.refs] using this, rfl⟩
        · simp only [Option.some.injEq] at h; subst h; exact ⟨rfl, rfl⟩
        · simp only [Option.some.injEq] at h; subst h; exact ⟨rfl, rfl⟩
        · cases h
  · rename_i T x y _
    unfold vIdx at h
    split at h
    · cases h
    · split at h
      · rename_i nm oo m n hx
        have := hsp x; rw [hx] at this
        simp only [Bool.cond_eq_ite] at h
        repeat' (split at h)
        all_goals (first | (cases h; done) | (simp only [Option.some.injEq] at h; subst h; exact ⟨by simpa only [AV.refs] using this, rfl⟩))
      · simp only [Bool.cond_eq_ite] at h
        repeat' (split at h)
        all_goals (first | (cases h; done) | (simp only [Option.some.injEq] at h; subst h; exact ⟨rfl, rfl⟩))
      · rename_i nm oo hx
        have := hsp x; rw [hx] at this
        simp only [Bool.cond_eq_ite] at h
        repeat' (split at h)
        all_goals (first | (cases h; done) | (simp only [Option.some.injEq] at h; subst h; exact ⟨by simpa only [AV.refs] using this, rfl⟩))
      · cases h
  · rename_i x i _
    unfold vExtr at h
    split at h
    · rename_i l hx
      have := hsp x; rw [hx] at this
      split at h
      · rename_i a ha
        simp only [Option.some.injEq] at h; subst h
        exact ⟨refsL_get (by simpa only [AV.refs] using this) ha, rfl⟩
      · cases h
    · cases h
  · split at h
    · unfold vLen at h
      repeat' (split at h)
      all_goals (first | (cases h; done) | (simp only [Option.some.injEq] at h; subst h; exact ⟨rfl, rfl⟩))
    · cases h
  · unfold vMin at h
    repeat' (split at h)
    all_goals (first | (cases h; done) | (simp only [Option.some.injEq] at h; subst h; exact ⟨rfl, rfl⟩))
  · unfold vMax at h
    repeat' (split at h)
    all_goals (first | (cases h; done) | (simp only [Option.some.injEq] at h; subst h; exact ⟨rfl, rfl⟩))
  · split at h
    · rename_i x y T T' d _ _ hd
      simp only [Bool.cond_eq_ite] at h
      split at h
      · unfold vApp at h
        split at h
        · cases h
        · split at h
          · cases h
          · simp only [Bool.cond_eq_ite] at h
            split at h
            · split at h
              · rename_i nm l s1 l' s2 _ _
                simp only [Option.some.injEq] at h; subst h
                refine ⟨by simp [AV.refs]; simpa using hne d hd, ?_⟩
                cases nm <;> simp [hpFree, Ent.refs]
              · cases h
            · cases h
      · cases h
    · cases h
  · unfold vIndex at h
    repeat' (split at h)
    all_goals (try simp only [Bool.cond_eq_ite] at h)
    all_goals (repeat' (split at h))
    all_goals (first | (cases h; done) | (simp only [Option.some.injEq] at h; subst h; exact ⟨rfl, rfl⟩))
  · rename_i x _
    unfold vNil at h
    split at h
    · rename_i nm oo hx
      have := hsp x; rw [hx] at this
      simp only [Option.some.injEq] at h; subst h; exact ⟨this, rfl⟩
    · simp only [Option.some.injEq] at h; subst h; exact ⟨rfl, rfl⟩
    · simp only [Option.some.injEq] at h; subst h; exact ⟨rfl, rfl⟩
    · cases h
  · unfold vFieldV at h
    repeat' (split at h)
    all_goals (try simp only [Bool.cond_eq_ite] at h)
    all_goals (repeat' (split at h))
    all_goals (first | (cases h; done) | (simp only [Option.some.injEq] at h; subst h; exact ⟨rfl, rfl⟩))
  · rename_i fn fs cs _
    unfold vFunc at h
    split at h
    · simp only [Option.some.injEq] at h; subst h
      refine ⟨?_, rfl⟩
      simp only [AV.refs]
      generalize cs.toList = l
      induction l with
      | nil => rfl
      | cons x l ih => simp only [List.map_cons, AV.refsL, hop x, ih, Bool.or_self]
    · cases h
  · cases h

theorem vCall_refs {Γ : FuncId → List D → RV} {fz : Bool} {d f : Nat} {as : List AV} {out : Out} {k : Nat} (h : vCall P Γ fz d f g σ as = some out) (hd : o.dst = some d) (hn : ¬ isNm o k) : out.av.refs k = false ∧ hpFree k out.hp = true := by
  unfold vCall at h
  split at h
  · cases h
  · rename_i ds p _
    split at h
    · unfold vCallM at h
      split at h
      · simp only [Option.some.injEq] at h; subst h
        exact ⟨rfl, rfl⟩
      · cases h
    unfold vCallR at h
    simp only [Bool.cond_eq_ite] at h
    split at h
    · simp only [Option.some.injEq] at h; subst h
      exact ⟨still_refs _ _, rfl⟩
    · split at h
      · rename_i hfr
        simp only [Bool.and_eq_true, decide_eq_true_eq] at hfr
        simp only [Option.some.injEq] at h; subst h
        constructor
        · cases hr : (inst (10000 + 100 * d) _).1.refs k with
          | false => rfl
          | true =>
            have := inst_within _ _ _ hr
            exact absurd ⟨d, hd, .inr ⟨this.1, by omega⟩⟩ hn
        · simp only [hpFree, List.all_eq_true]
          intro q hq
          obtain ⟨m, x⟩ := q
          obtain ⟨_, _, b, T, n, l, rfl⟩ := inst_names _ _ m x hq
          simp [Ent.refs]
      · cases h

theorem vCall_names {Γ : FuncId → List D → RV} {fz : Bool} {d f : Nat} {as : List AV} {out : Out} (h : vCall P Γ fz d f g σ as = some out) (hd : o.dst = some d) : ∀ m x, (m, x) ∈ out.hp → isNm o m ∧ fresh m σ = true := by
  unfold vCall at h
  split at h
  · cases h
  · rename_i ds p _
    split at h
    · unfold vCallM at h
      split at h
      · simp only [Option.some.injEq] at h; subst h; simp
      · cases h
    unfold vCallR at h
    simp only [Bool.cond_eq_ite] at h
    split at h
    · simp only [Option.some.injEq] at h; subst h; simp
    · split at h
      · rename_i hfr
        simp only [Bool.and_eq_true, decide_eq_true_eq] at hfr
        simp only [Option.some.injEq] at h; subst h
        intro m x hmx
        obtain ⟨q1, q2, _⟩ := inst_names _ _ m x hmx
        exact ⟨⟨d, hd, .inr ⟨q1, by omega⟩⟩, freshR_spec hfr.1 q1 (by omega)⟩
      · cases h
theorem addS_some {p : Prop} {x : Option Out} {out : Out} (h : addS p x = some out) : ∃ y, x = some y ∧ out.av = y.av ∧ out.hp = y.hp := by
  cases x with
  | none => simp [addS] at h
  | some y =>
    simp only [addS, Option.some.injEq] at h; subst h
    exact ⟨y, rfl, rfl, rfl⟩

theorem outOf_refs {Γ : FuncId → List D → RV} {fz : List Nat} {out : Out} {k : Nat} (h : outOf P Γ fz o g σ = some out) (hf : fresh k σ = true) (hn : ¬ isNm o k) : out.av.refs k = false ∧ hpFree k out.hp = true := by
  unfold outOf at h
  split at h
  · split at h
    · rename_i d hd
      simp only [Bool.cond_eq_ite] at h
      split at h
      · exact vCall_refs h hd hn
      · unfold vExt at h
        split at h
        · split at h
          · simp only [Option.some.injEq] at h; subst h; exact ⟨rfl, rfl⟩
          · cases h
        · cases h
    · cases h
  · split at h
    · split at h
      · rename_i d hd
        simp only [Bool.cond_eq_ite] at h
        split at h
        · obtain ⟨y, hy, e1, e2⟩ := addS_some h
          rw [e1, e2]
          exact vCall_refs hy hd hn
        · cases h
      · cases h
    · exact opV_refs h hf hn

theorem dst_dat {T n : Nat} {g : Bool} {h : Hp} {d : D} {nm : Option Nat} {l : List (List D)} {s : Prop} (e : dstOf T n g h (.dat d) = some (nm, l, s)) : nm = none := by
  unfold dstOf at e
  simp only [sp] at e
  split at e
  · rename_i hh; cases hh
  · simp only [Option.some.injEq, Prod.mk.injEq] at e; exact e.1.symm
  · cases e
theorem outOf_names {Γ : FuncId → List D → RV} {fz : List Nat} {out : Out} (h : outOf P Γ fz o g σ = some out) (hm : muts o = false) : ∀ m x, (m, x) ∈ out.hp → isNm o m ∧ fresh m σ = true := by
  unfold outOf at h
  split at h
  · split at h
    · rename_i d hd
      simp only [Bool.cond_eq_ite] at h
      split at h
      · exact vCall_names h hd
      · unfold vExt at h
        split at h
        · split at h
          · simp only [Option.some.injEq] at h; subst h; simp
          · cases h
        · cases h
    · cases h
  · split at h
    · split at h
      · rename_i d hd
        simp only [Bool.cond_eq_ite] at h
        split at h
        · obtain ⟨y, hy, e1, e2⟩ := addS_some h
          rw [e2]
          exact vCall_names hy hd
        · cases h
      · cases h
    unfold opV at h
    simp only [Bool.cond_eq_ite] at h
    split at h
    case h_4 =>
      split at h
      · rename_i d hd
        unfold vAlloc at h
        simp only [Bool.cond_eq_ite] at h
        repeat' (split at h)
        all_goals (first | (cases h; done) | (rename_i hfr; simp only [Option.some.injEq] at h; subst h; simp only [List.mem_singleton, Prod.mk.injEq]; rintro m x ⟨rfl, _⟩; exact ⟨⟨_, hd, .inl rfl⟩, hfr⟩))
      · cases h
    case h_5 =>
      split at h
      · rename_i d hd
        unfold vBox at h
        simp only [Bool.cond_eq_ite] at h
        repeat' (split at h)
        all_goals (first | (cases h; done) | (rename_i hfr; simp only [Option.some.injEq] at h; subst h; simp only [List.mem_singleton, Prod.mk.injEq]; rintro m x ⟨rfl, _⟩; exact ⟨⟨_, hd, .inl rfl⟩, hfr⟩))
      · cases h
    case h_7 =>
      split at h
      · rename_i d hd
        unfold vBuildS at h
        simp only [Bool.cond_eq_ite] at h
        repeat' (split at h)
        all_goals (first | (cases h; done) | (simp only [Option.some.injEq] at h; subst h; simp; done) | (rename_i hfr; simp only [Option.some.injEq] at h; subst h; simp only [List.mem_singleton, Prod.mk.injEq]; rintro m x ⟨rfl, _⟩; exact ⟨⟨_, hd, .inl rfl⟩, hfr⟩))
      · cases h
    case h_13 =>
      split at h
      · rename_i d hd
        unfold vMake at h
        simp only [Bool.cond_eq_ite] at h
        repeat' (split at h)
        all_goals (first | (cases h; done) | (simp only [Option.some.injEq] at h; subst h; simp; done) | (rename_i hfr; simp only [Option.some.injEq] at h; subst h; simp only [List.mem_singleton, Prod.mk.injEq]; rintro m x ⟨rfl, _⟩; exact ⟨⟨_, hd, .inl rfl⟩, hfr⟩))
      · cases h
    case h_9 ho => simp [muts, ho] at hm
    case h_21 as ts ho =>
      split at h
      · rename_i x y T T' d ha ht hd
        simp only [muts, ho, ha] at hm
        cases x with
        | const v =>
          try simp only [Bool.cond_eq_ite] at h
          split at h
          · unfold vApp at h
            simp only [Bool.cond_eq_ite, opnd] at h
            split at h
            · cases h
            · split at h
              · cases h
              · split at h
                · rename_i hfr
                  split at h
                  · rename_i nm l s1 l' s2 hd1 _
                    have := dst_dat hd1
                    subst this
                    simp only [Option.some.injEq] at h; subst h
                    simp only [List.mem_singleton, Prod.mk.injEq]
                    rintro m x ⟨rfl, _⟩
                    simp only [Bool.and_eq_true] at hfr
                    exact ⟨⟨_, hd, .inl rfl⟩, hfr.2⟩
                  · cases h
                · cases h
          · cases h
        | tmp t => simp [isK] at hm
        | func f => simp [isK] at hm
        | global f => simp [isK] at hm
      · cases h
    all_goals (first | (cases h; done) | (simp only [Option.some.injEq] at h; subst h; simp; done) | skip)
    all_goals (first | unfold vPick at h | unfold vBuild at h | unfold vLoad at h | unfold vBin at h | unfold vUn at h | unfold vConv at h | unfold vSlice at h | unfold vFld at h | unfold vIdx at h | unfold vExtr at h | unfold vMin at h | unfold vMax at h | unfold vLen at h | unfold vIndex at h | unfold vNil at h | unfold vFieldV at h | unfold vFunc at h)
    all_goals (try simp only [Bool.cond_eq_ite] at h)
    all_goals (repeat' (split at h))
    all_goals (first | (cases h; done) | (simp only [Option.some.injEq] at h; subst h; simp))
end
end Go.Eng

namespace Go.Eng
open Go.RowKit


def gOf (L : List Oper) (e : List (Nat × AV)) (o : Oper) : Option Bool := match o.guard with
  | none => some true
  | some (j, want) => gval L e j want
def wr (o : Oper) (g : Bool) (a : AV) : AV := match o.guard with
  | none => a
  | some _ => .gd g a
def hw (o : Oper) (g : Bool) (h : Hp) : Hp := match o.guard with
  | none => h
  | some _ => hg g h

def stepD (P : Program) (Γ : FuncId → List D → RV) (L : List Oper) (fz : List Nat) (o : Oper) (σ : St) : Option (St × Prop) :=
  match gOf L σ.e o with
  | none => none
  | some g => match outD P Γ fz o g σ with
    | none => none
    | some x => some (⟨putA o.dst (wr o g x.av) σ.e, hw o g x.hp ++ σ.h⟩, g = true → x.side)

structure Eqv (σ σ' : St) : Prop where
  e : ∀ s, get σ.e s = get σ'.e s
  h : ∀ k, geth σ.h k = geth σ'.h k
  f : ∀ k, fresh k σ = fresh k σ'

theorem Eqv.refl (σ : St) : Eqv σ σ := ⟨fun _ => rfl, fun _ => rfl, fun _ => rfl⟩
theorem Eqv.symm {σ σ' : St} (h : Eqv σ σ') : Eqv σ' σ := ⟨fun s => (h.e s).symm, fun s => (h.h s).symm, fun s => (h.f s).symm⟩
theorem Eqv.trans {σ σ' σ'' : St} (h : Eqv σ σ') (h' : Eqv σ' σ'') : Eqv σ σ'' := ⟨fun s => (h.e s).trans (h'.e s), fun s => (h.h s).trans (h'.h s), fun s => (h.f s).trans (h'.f s)⟩

theorem Eqv.sim {C : Ctx} {σ σ' : St} {a : Act} {w : World} (h : Eqv σ σ') (S : Sim C σ a w) : Sim C σ' a w := by
  obtain ⟨ι, S⟩ := S
  have S1 : SimI C ⟨σ'.e, σ.h⟩ ι a w := ⟨fun s => by rw [← h.e]; exact S.env s, S.ent, S.inj, S.os, S.tape, S.output, S.size, S.old, S.def0, S.tms⟩
  exact ⟨ι, S1.hcongr fun k => (h.h k).symm⟩

theorem opnd_congr {e e' : List (Nat × AV)} (x : Operand) (h : ∀ s, x = .tmp s → get e s = get e' s) : opnd e x = opnd e' x := by
  unfold opnd
  cases x <;> first | rfl | exact h _ rfl

theorem get_putA {d : Option Nat} {a : AV} {e : List (Nat × AV)} {s : Nat} : get (putA d a e) s = if d = some s then a else get e s := by
  cases d with
  | none => simp [putA]
  | some d =>
    simp only [putA, get]
    by_cases h : d = s
    · simp [h]
    · have : (d == s) = false := by simpa using h
      simp [h, this]

theorem geth_app {k : Nat} {h' : Hp} : ∀ {h : Hp}, (∀ x, (k, x) ∉ h) → geth (h ++ h') k = geth h' k
  | [], _ => rfl
  | (j, x) :: l, hn => by
    have hj : (j == k) = false := by simp only [beq_eq_false_iff_ne]; rintro rfl; exact hn x (by simp)
    simp only [List.cons_append, geth, hj, cond_false]
    exact geth_app (h := l) fun x hx => hn x (by simp [hx])

theorem geth_app_congr {k : Nat} {h1 h2 : Hp} (he : geth h1 k = geth h2 k) : ∀ (h : Hp), geth (h ++ h1) k = geth (h ++ h2) k
  | [] => he
  | (j, x) :: l => by
    simp only [List.cons_append, geth]
    cases j == k
    · simpa using geth_app_congr he l
    · rfl

theorem hw_mem {o : Oper} {g : Bool} {h : Hp} {k : Nat} (hn : ∀ x, (k, x) ∉ h) : ∀ x, (k, x) ∉ hw o g h := by
  unfold hw
  split
  · exact hn
  · induction h with
    | nil => simp [hg]
    | cons p l ih =>
      obtain ⟨j, x⟩ := p
      have hj : k ≠ j := by rintro rfl; exact hn x (by simp)
      have := ih fun x hx => hn x (by simp [hx])
      rcases x with _ | ⟨b, y⟩ <;> simp only [hg, List.mem_cons, Prod.mk.injEq, not_or] <;> exact fun x => ⟨fun e => hj e.1, this x⟩
theorem hg_free {g : Bool} {k : Nat} : ∀ (h : Hp), hpFree k (hg g h) = hpFree k h
  | [] => rfl
  | (j, some (b, x)) :: l => by have := hg_free (g := g) (k := k) l; simp only [hpFree, hg, List.all_cons] at this ⊢; rw [this]
  | (j, none) :: l => by have := hg_free (g := g) (k := k) l; simp only [hpFree, hg, List.all_cons] at this ⊢; rw [this]
theorem hw_free {o : Oper} {g : Bool} {h : Hp} {k : Nat} : hpFree k (hw o g h) = hpFree k h := by
  unfold hw; split
  · rfl
  · exact hg_free h
theorem wr_refs {o : Oper} {g : Bool} {a : AV} {k : Nat} : (wr o g a).refs k = a.refs k := by
  unfold wr; split
  · rfl
  · simp [AV.refs]

theorem fresh_put {k : Nat} {d : Option Nat} {a : AV} {e : List (Nat × AV)} {hp h : Hp} :
    fresh k ⟨putA d a e, hp ++ h⟩ = ((d.isNone || !a.refs k) && hpFree k hp && fresh k ⟨e, h⟩) := by
  cases d with
  | none => simp only [putA, fresh, hpFree, List.all_append, Option.isNone_none, Bool.true_or, Bool.true_and]; ac_rfl
  | some d => simp only [putA, fresh, hpFree, List.all_append, List.all_cons, Option.isNone_some, Bool.false_or]; ac_rfl

theorem fresh_opnd {k : Nat} {σ : St} (h : fresh k σ = true) (x : Operand) : (opnd σ.e x).refs k = false := by
  unfold opnd
  simp only [fresh, Bool.and_eq_true] at h
  cases x <;> first | exact get_refs h.1 _ | simp [AV.refs]

section
variable {P : Program} {Γ : FuncId → List D → RV} {fz : List Nat} {L : List Oper} {σ σ' : St} {o : Oper} {g : Bool}

theorem gOf_congr {e e' : List (Nat × AV)} (h : ∀ j want oj s, o.guard = some (j, want) → L[j]? = some oj → oj.dst = some s → get e s = get e' s) : gOf L e o = gOf L e' o := by
  unfold gOf
  split
  · rfl
  · rename_i j want hg
    unfold gval
    split
    · rename_i oj hj
      split
      · rename_i s hs; rw [h j want oj s hg hj hs]
      · rfl
    · rfl

theorem outOf_quiet {out : Out} (h : outOf P Γ fz o g σ = some out) (hm : touch o = false) : out.hp = [] := by
  unfold outOf at h
  split at h
  · rename_i f as hc
    unfold callOf at hc
    split at hc
    · rename_i ho; simp [touch, ho] at hm
    · cases hc
  · split at h
    · rename_i hc
      obtain ⟨args, ts, ho, _⟩ := cloOf_some hc
      simp [touch, ho] at hm
    unfold opV at h
    simp only [Bool.cond_eq_ite] at h
    split at h
    all_goals (first | (rename_i ho; simp [touch, ho] at hm; done) | (cases h; done) | (simp only [Option.some.injEq] at h; subst h; rfl) | skip)
    all_goals (first | unfold vPick at h | unfold vBuild at h | unfold vLoad at h | unfold vBin at h | unfold vUn at h | unfold vConv at h | unfold vSlice at h | unfold vFld at h | unfold vIdx at h | unfold vExtr at h | unfold vMin at h | unfold vMax at h | unfold vLen at h | unfold vIndex at h | unfold vNil at h | unfold vFieldV at h | unfold vFunc at h)
    all_goals (try simp only [Bool.cond_eq_ite] at h)
    all_goals (repeat' (split at h))
    all_goals (first | (cases h; done) | (simp only [Option.some.injEq] at h; subst h; rfl))

theorem outD_some {x : OutD} (h : outD P Γ fz o g σ = some x) : ∃ out, outOf P Γ fz o g σ = some out ∧ x.av = out.av ∧ x.hp = out.hp ∧ x.side = out.side := by
  simp only [outD, Option.map_eq_some_iff] at h
  obtain ⟨out, h1, rfl⟩ := h
  exact ⟨out, h1, rfl, rfl, rfl⟩

theorem stepD_spec {τ : St} {p : Prop} (h : stepD P Γ L fz o σ = some (τ, p)) :
    ∃ g x, gOf L σ.e o = some g ∧ outD P Γ fz o g σ = some x ∧ τ = ⟨putA o.dst (wr o g x.av) σ.e, hw o g x.hp ++ σ.h⟩ ∧ p = (g = true → x.side) := by
  unfold stepD at h
  split at h
  · cases h
  · rename_i g hg
    split at h
    · cases h
    · rename_i x hx
      simp only [Option.some.injEq, Prod.mk.injEq] at h
      exact ⟨g, x, hg, hx, h.1.symm, h.2.symm⟩
theorem stepD_mk {x : OutD} (hg : gOf L σ.e o = some g) (hx : outD P Γ fz o g σ = some x) :
    stepD P Γ L fz o σ = some (⟨putA o.dst (wr o g x.av) σ.e, hw o g x.hp ++ σ.h⟩, g = true → x.side) := by
  simp only [stepD, hg, hx]

theorem stepD_congr {τ : St} {p : Prop} (hE : Eqv σ σ') (h : stepD P Γ L fz o σ = some (τ, p)) : ∃ τ', stepD P Γ L fz o σ' = some (τ', p) ∧ Eqv τ τ' := by
  obtain ⟨g, x, h1, h2, rfl, rfl⟩ := stepD_spec h
  have h1' : gOf L σ'.e o = some g := by rw [← h1]; exact (gOf_congr fun _ _ _ s _ _ _ => hE.e s).symm
  have h2' : outD P Γ fz o g σ' = some x := outD_local (fun y _ => opnd_congr y fun s _ => hE.e s) (fun _ _ _ k _ => hE.h k) (fun _ k _ hf => by rw [← hE.f]; exact hf) h2
  refine ⟨_, stepD_mk h1' h2', fun s => ?_, fun k => ?_, fun k => ?_⟩
  · simp only [get_putA, hE.e]
  · exact geth_app_congr (hE.h k) _
  · rw [fresh_put, fresh_put]
    congr 1
    exact hE.f k

def okPair (ops : Array Oper) (x y : Oper) : Bool := x.apart ops y && (!muts x || !touch y) && (!muts y || !touch x)

theorem nm_aux {n k d d' : Nat} (hx : d < n) (hy : d' < n) (h1 : k = d ∨ (10000 + 100 * d ≤ k ∧ k < 10000 + 100 * d + 100)) (h2 : k = d' ∨ (10000 + 100 * d' ≤ k ∧ k < 10000 + 100 * d' + 100)) (hne : d ≠ d')
    (hn : n ≤ 10000 := by assumption) : False := by omega
theorem nm_apart {n k : Nat} {x y : Oper} (hn : n ≤ 10000) (hx : inB n x.dst = true) (hy : inB n y.dst = true) (hd : ∀ d, x.dst = some d → y.dst ≠ some d) (h1 : isNm x k) (h2 : isNm y k) : False := by
  obtain ⟨d, hd1, hk1⟩ := h1
  obtain ⟨d', hd2, hk2⟩ := h2
  simp only [hd1, hd2, inB, decide_eq_true_eq] at hx hy
  have := hd d hd1
  rw [hd2] at this
  have hne : d ≠ d' := fun e => this (by rw [e])
  exact nm_aux hx hy hk1 hk2 hne

theorem mem_looks {ops : Array Oper} {x : Operand} {s : Nat} (hx : x ∈ o.op.operands) (hs : x = .tmp s) : s ∈ o.looksAt ops := by
  subst hs
  simp only [Oper.looksAt, List.mem_append, List.mem_filterMap]
  exact .inl ⟨_, Array.mem_toList_iff.2 hx, rfl⟩
theorem guard_looks {ops : Array Oper} {j s : Nat} {want : Bool} {oj : Oper} (h1 : o.guard = some (j, want)) (h2 : ops.toList[j]? = some oj) (h3 : oj.dst = some s) : s ∈ o.looksAt ops := by
  simp only [Oper.looksAt, List.mem_append, h1]
  right
  have : ops[j]? = some oj := by rw [← Array.getElem?_toList]; exact h2
  simp [this, h3]

theorem stepD_comm {n : Nat} {ops : Array Oper} {x y : Oper} {σ1 σ2 : St} {p q : Prop} (hn : n ≤ 10000) (hx : inB n x.dst = true) (hy : inB n y.dst = true) (hok : okPair ops x y = true)
    (h1 : stepD P Γ ops.toList fz x σ = some (σ1, p)) (h2 : stepD P Γ ops.toList fz y σ1 = some (σ2, q)) :
    ∃ σ1' σ2', stepD P Γ ops.toList fz y σ = some (σ1', q) ∧ stepD P Γ ops.toList fz x σ1' = some (σ2', p) ∧ Eqv σ2 σ2' := by
  simp only [okPair, Bool.and_eq_true, Bool.or_eq_true, Bool.not_eq_true'] at hok
  obtain ⟨⟨hap, hxy⟩, hyx⟩ := hok
  obtain ⟨a1, a2, a3⟩ := Oper.apart_spec hap
  obtain ⟨g, u, e1, e2, rfl, rfl⟩ := stepD_spec h1
  obtain ⟨g', u', f1, f2, rfl, rfl⟩ := stepD_spec h2
  obtain ⟨ou, eo, eav, ehp, _⟩ := outD_some e2
  obtain ⟨ou', fo, fav, fhp, _⟩ := outD_some f2
  have hop : ∀ z ∈ y.op.operands, opnd (putA x.dst (wr x g u.av) σ.e) z = opnd σ.e z := fun z hz => opnd_congr z fun s hs => by
    rw [get_putA, if_neg fun hd => a1 s hd (mem_looks hz hs)]
  have f1' : gOf ops.toList σ.e y = some g' := by
    rw [← f1]
    refine gOf_congr fun j want oj s k1 k2 k3 => ?_
    rw [get_putA, if_neg fun hd => a1 s hd (guard_looks k1 k2 k3)]
  have hxn : ∀ k, touch y = true → (∀ z, (k, z) ∉ u.hp) ∨ (isNm x k ∧ fresh k σ = true) := by
    intro k ht
    by_cases hh : ∀ z, (k, z) ∉ u.hp
    · exact .inl hh
    · simp only [Classical.not_forall, Classical.not_not] at hh
      obtain ⟨z, hz⟩ := hh
      rw [ehp] at hz
      exact .inr (outOf_names eo (hxy.resolve_right (by simp [ht])) k z hz)
  have f2' : outD P Γ fz y g' σ = some u' := by
    refine outD_local (σ := ⟨putA x.dst (wr x g u.av) σ.e, hw x g u.hp ++ σ.h⟩) hop (fun ht z hz k hk => ?_) (fun ht k _ hf => ?_) f2
    · rcases hxn k ht with hh | ⟨_, hh⟩
      · exact geth_app (hw_mem hh)
      · simp only [hop z hz] at hk
        rw [fresh_opnd hh] at hk; cases hk
    · rw [fresh_put, Bool.and_eq_true] at hf
      exact hf.2
  have hyn : ∀ k, touch x = true → (∀ z, (k, z) ∉ u'.hp) ∨ (isNm y k ∧ fresh k σ = true) := by
    intro k ht
    by_cases hh : ∀ z, (k, z) ∉ u'.hp
    · exact .inl hh
    · simp only [Classical.not_forall, Classical.not_not] at hh
      obtain ⟨z, hz⟩ := hh
      rw [fhp] at hz
      obtain ⟨q1, q2⟩ := outOf_names fo (hyx.resolve_right (by simp [ht])) k z hz
      rw [fresh_put, Bool.and_eq_true] at q2
      exact .inr ⟨q1, q2.2⟩
  obtain ⟨ou2, fo2, fav2, fhp2, _⟩ := outD_some f2'
  have e1' : gOf ops.toList (putA y.dst (wr y g' u'.av) σ.e) x = some g := by
    rw [← e1]
    refine gOf_congr fun j want oj s k1 k2 k3 => ?_
    rw [get_putA, if_neg fun hd => a3 s hd (guard_looks k1 k2 k3)]
  have hop' : ∀ z ∈ x.op.operands, opnd σ.e z = opnd (putA y.dst (wr y g' u'.av) σ.e) z := fun z hz => opnd_congr z fun s hs => by
    rw [get_putA, if_neg fun hd => a3 s hd (mem_looks hz hs)]
  have e2' : outD P Γ fz x g ⟨putA y.dst (wr y g' u'.av) σ.e, hw y g' u'.hp ++ σ.h⟩ = some u := by
    refine outD_local (σ := σ) hop' (fun ht z hz k hk => ?_) (fun ht k hk hf => ?_) e2
    · rcases hyn k ht with hh | ⟨_, hh⟩
      · exact (geth_app (hw_mem hh)).symm
      · rw [fresh_opnd hh] at hk; cases hk
    · rw [fresh_put]
      obtain ⟨r1, r2⟩ := outOf_refs fo2 hf (fun hk' => nm_apart hn hx hy a2 hk hk')
      rw [wr_refs, hw_free, fav2, r1, fhp2, r2]
      simpa using hf
  refine ⟨_, _, stepD_mk f1' f2', stepD_mk e1' e2', fun s => ?_, fun k => ?_, fun k => ?_⟩
  · simp only [get_putA]
    by_cases hs : y.dst = some s
    · have : x.dst ≠ some s := fun hd => a2 s hd hs
      simp [hs, this]
    · simp [hs]
  · -- the names of the two are different
    have key : (∀ z, (k, z) ∉ u.hp) ∨ (∀ z, (k, z) ∉ u'.hp) := by
      cases htx : touch x
      · left; rw [ehp, outOf_quiet eo htx]; simp
      · cases hty : touch y
        · right; rw [fhp, outOf_quiet fo hty]; simp
        · rcases hxn k hty with hh | ⟨q1, _⟩
          · exact .inl hh
          · rcases hyn k htx with hh | ⟨q2, _⟩
            · exact .inr hh
            · exact (nm_apart hn hx hy a2 q1 q2).elim
    simp only
    rcases key with hh | hh
    · rw [geth_app (hw_mem hh)]
      exact geth_app_congr (geth_app (hw_mem hh)) _
    · rw [geth_app (hw_mem hh)]
      exact (geth_app_congr (geth_app (hw_mem hh)) _).symm
  · simp only [fresh_put]
    ac_rfl
end
end Go.Eng

namespace Go.Eng
open Go.RowKit


def stepQ (P : Program) (Γ : FuncId → List D → RV) (L : List Oper) (fz : List Nat) (o : Oper) (r : Rn) : Option Rn :=
  match o.guard with
  | none => match outOf P Γ fz o true r.σ with
    | some out => some ⟨⟨putA o.dst out.av r.σ.e, out.hp ++ r.σ.h⟩, (true, out.side) :: r.its⟩
    | none => none
  | some (j, want) => match gval L r.σ.e j want with
    | some g => match outOf P Γ fz o g r.σ with
      | some out => some ⟨⟨putA o.dst (.gd g out.av) r.σ.e, hg g out.hp ++ r.σ.h⟩, (true, g = true → out.side) :: r.its⟩
      | none => none
    | none => none

def runQ (P : Program) (Γ : FuncId → List D → RV) (L : List Oper) (fz : List Nat) : List Oper → Option Rn → Option Rn
  | _, none => none
  | [], some r => some r
  | o :: os, some r => runQ P Γ L fz os (stepQ P Γ L fz o r)

def Lx (P : Program) (Γ : FuncId → List D → RV) (ops : Array Oper) (fz : List Nat) : List Nat → St → St → Prop
  | [], σ, τ => τ = σ
  | i :: l, σ, τ => ∃ o σ' p, ops[i]? = some o ∧ stepD P Γ ops.toList fz o σ = some (σ', p) ∧ p ∧ Lx P Γ ops fz l σ' τ

section
variable {P : Program} {Γ : FuncId → List D → RV} {fz : List Nat} {L : List Oper} {σ σ' : St} {o : Oper} {g : Bool} {ops : Array Oper}

theorem stepQ_D {r r' : Rn} (h : stepQ P Γ L fz o r = some r') : ∃ p, stepD P Γ L fz o r.σ = some (r'.σ, p) ∧ ∃ q, r'.its = (true, q) :: r.its ∧ (q → p) := by
  unfold stepQ at h
  split at h
  · rename_i hg
    split at h
    · rename_i out ho
      simp only [Option.some.injEq] at h; subst h
      refine ⟨true = true → out.side, ?_, _, rfl, fun q _ => q⟩
      simp only [stepD, gOf, hg, outD, ho, Option.map_some, wr, hw]
    · cases h
  · rename_i j want hg
    split at h
    · rename_i g hgv
      split at h
      · rename_i out ho
        simp only [Option.some.injEq] at h; subst h
        refine ⟨g = true → out.side, ?_, _, rfl, fun q => q⟩
        simp only [stepD, gOf, hg, hgv, outD, ho, Option.map_some, wr, hw]
      · cases h
    · cases h

theorem runQ_none : ∀ {os : List Oper}, runQ P Γ L fz os none = none
  | [] => rfl
  | _ :: _ => rfl

theorem runQ_Lx {K : St → Prop} : ∀ (os : List Oper) (k : Nat) (r : Rn), ops.toList.drop k = os → Hold (runQ P Γ ops.toList fz os (some r)) K →
    fin r.its (∃ τ, Lx P Γ ops fz (List.range' k os.length) r.σ τ ∧ K τ)
  | [], k, r, _, h => by
    simp only [runQ, Hold] at h
    exact fin_mono (fun hK => ⟨_, rfl, hK⟩) h
  | o :: os, k, r, hk, h => by
    simp only [runQ] at h
    cases hs : stepQ P Γ ops.toList fz o r with
    | none => rw [hs, runQ_none] at h; exact h.elim
    | some r' =>
      rw [hs] at h
      obtain ⟨p, hD, q, hi, hqp⟩ := stepQ_D hs
      have hk' : ops.toList.drop (k + 1) = os := by rw [← List.drop_drop, hk]; rfl
      have ho : ops[k]? = some o := by
        have := congrArg (·[0]?) hk
        simpa using this
      have ih := runQ_Lx os (k + 1) r' hk' h
      rw [hi] at ih
      simp only [fin] at ih
      refine fin_mono (fun hh => ?_) ih
      obtain ⟨hq, τ, hl, hK⟩ := hh
      exact ⟨τ, by simp only [List.length_cons, List.range'_succ, Lx]; exact ⟨o, r'.σ, p, ho, hD, hqp hq, hl⟩, hK⟩

theorem Lx_congr {τ : St} : ∀ {l : List Nat} {σ σ' : St}, Eqv σ σ' → Lx P Γ ops fz l σ τ → ∃ τ', Eqv τ τ' ∧ Lx P Γ ops fz l σ' τ'
  | [], σ, σ', hE, h => by simp only [Lx] at h; subst h; exact ⟨σ', hE, rfl⟩
  | i :: l, σ, σ', hE, h => by
    simp only [Lx] at h
    obtain ⟨o, σ1, p, ho, hs, hp, hl⟩ := h
    obtain ⟨σ1', hs', hE'⟩ := stepD_congr hE hs
    obtain ⟨τ', h1, h2⟩ := Lx_congr hE' hl
    exact ⟨τ', h1, o, σ1', p, ho, hs', hp, h2⟩

theorem Lx_take {n : Nat} {τ : St} {i : Nat} {oi : Oper} {post : List Nat} (hn : n ≤ 10000) (hin : ∀ (j : Nat) (o : Oper), ops[j]? = some o → inB n o.dst = true) (hi : ops[i]? = some oi) :
    ∀ {pre : List Nat} {σ : St}, (∀ j ∈ pre, ∀ oj, ops[j]? = some oj → okPair ops oj oi = true) → Lx P Γ ops fz (pre ++ i :: post) σ τ →
      ∃ σ' p τ', stepD P Γ ops.toList fz oi σ = some (σ', p) ∧ p ∧ Eqv τ τ' ∧ Lx P Γ ops fz (pre ++ post) σ' τ'
  | [], σ, _, h => by
    simp only [List.nil_append, Lx] at h
    obtain ⟨o, σ', p, ho, hs, hp, hl⟩ := h
    rw [hi] at ho; cases ho
    exact ⟨σ', p, τ, hs, hp, .refl _, hl⟩
  | j :: pre, σ, hok, h => by
    simp only [List.cons_append, Lx] at h
    obtain ⟨o, σ1, q, ho, hs, hq, hl⟩ := h
    obtain ⟨σ2, p, τ', h1, h2, h3, h4⟩ := Lx_take hn hin hi (pre := pre) (fun j hj => hok j (by simp [hj])) hl
    obtain ⟨σ1', σ2', c1, c2, c3⟩ := stepD_comm hn (hin _ _ ho) (hin _ _ hi) (hok j (by simp) o ho) hs h1
    obtain ⟨τ'', d1, d2⟩ := Lx_congr c3 h4
    exact ⟨σ1', p, τ'', c1, h2, h3.trans d1, by simp only [List.cons_append, Lx]; exact ⟨o, σ2', q, ho, c2, hq, d2⟩⟩
end


def edg (o : Oper) : List Nat := (o.after.toList.filter (Region.binds .any)).map (·.on)
def mkM : List Oper → List Nat → List Nat
  | [], m => m
  | o :: l, m => mkM l (m ++ [(edg o).foldl (fun x t => x ||| (1 <<< t) ||| m.getD t 0) 0])
def chkI (ops : Array Oper) (m : List Nat) (i : Nat) (oi : Oper) : Bool :=
  (edg oi).all (fun t => decide (t < i)) && (List.range i).all fun j =>
    bif (m.getD i 0).testBit j then (edg oi).any (fun t => t == j || (decide (j < t) && (m.getD t 0).testBit j))
    else match ops[j]? with
      | some oj => okPair ops oj oi
      | none => true
def chkD (n : Nat) (ops : Array Oper) (m : List Nat) : Bool :=
  decide (n ≤ 10000) && ops.toList.all (fun o => inB n o.dst) && (List.range ops.size).all fun i => match ops[i]? with
    | some oi => chkI ops m i oi
    | none => true

section
variable {n : Nat} {ops : Array Oper} {m : List Nat} {listed : Array Bool}

theorem chkD_spec (h : chkD n ops m = true) : n ≤ 10000 ∧ (∀ (j : Nat) (o : Oper), ops[j]? = some o → inB n o.dst = true) ∧
    ∀ (i : Nat) (oi : Oper), ops[i]? = some oi → (∀ t ∈ edg oi, t < i) ∧ ∀ j, j < i → ((m.getD i 0).testBit j = true ∧ ∃ t ∈ edg oi, t = j ∨ (j < t ∧ (m.getD t 0).testBit j = true)) ∨
      ((m.getD i 0).testBit j = false ∧ ∀ oj, ops[j]? = some oj → okPair ops oj oi = true) := by
  simp only [chkD, Bool.and_eq_true, decide_eq_true_eq, List.all_eq_true, List.mem_range] at h
  obtain ⟨⟨h1, h2⟩, h3⟩ := h
  refine ⟨h1, fun j o hj => h2 o (Array.mem_toList_iff.2 (Array.mem_of_getElem? hj)), fun i oi hi => ?_⟩
  have := h3 i (Array.getElem?_eq_some_iff.1 hi).1
  simp only [hi, chkI, Bool.and_eq_true, List.all_eq_true, decide_eq_true_eq, List.mem_range] at this
  refine ⟨this.1, fun j hj => ?_⟩
  have h4 := this.2 j hj
  cases hb : (m.getD i 0).testBit j
  · right
    rw [hb, cond_false] at h4
    exact ⟨rfl, fun oj hoj => by simpa [hoj] using h4⟩
  · left
    rw [hb, cond_true] at h4
    simp only [List.any_eq_true, Bool.or_eq_true, beq_iff_eq, Bool.and_eq_true, decide_eq_true_eq] at h4
    exact ⟨rfl, h4⟩

theorem mask_listed (h : chkD n ops m = true) (hcl : ∀ (i : Nat) (o : Oper), ops[i]? = some o → listed.getD i false = true → ∀ t ∈ edg o, listed.getD t false = true) :
    ∀ (i : Nat) (oi : Oper), ops[i]? = some oi → (∀ t ∈ edg oi, listed.getD t false = true) → ∀ j, j < i → (m.getD i 0).testBit j = true → listed.getD j false = true := by
  intro i
  induction i using Nat.strongRecOn with
  | _ i ih =>
    intro oi hi hall j hj hb
    obtain ⟨_, _, hs⟩ := chkD_spec h
    obtain ⟨hlt, hs⟩ := hs i oi hi
    rcases hs j hj with ⟨_, t, ht, rfl | ⟨hjt, htb⟩⟩ | ⟨hb', _⟩
    · exact hall t ht
    · have htl := hall t ht
      have hti := hlt t ht
      have hts : t < ops.size := Nat.lt_trans hti (Array.getElem?_eq_some_iff.1 hi).1
      exact ih t hti _ (Array.getElem?_eq_getElem hts) (hcl t _ (Array.getElem?_eq_getElem hts) htl) j hjt htb
    · rw [hb] at hb'; cases hb'

theorem mem_edg {o : Oper} {t : Nat} : t ∈ edg o ↔ ∃ e ∈ o.after, Region.binds .any e = true ∧ e.on = t := by
  simp only [edg, List.mem_map, List.mem_filter, Array.mem_toList_iff]
  constructor
  · rintro ⟨e, ⟨h1, h2⟩, h3⟩; exact ⟨e, h1, h2, h3⟩
  · rintro ⟨e, h1, h2, h3⟩; exact ⟨e, ⟨h1, h2⟩, h3⟩

theorem getD_tf {i : Nat} (h : i < listed.size) : listed.getD i true = listed.getD i false := by
  simp [Array.getElem?_eq_getElem h]
theorem getD_true_lt {i : Nat} (h : listed.getD i true = false) : i < listed.size := by
  rcases Nat.lt_or_ge i listed.size with h' | h'
  · exact h'
  · simp [Array.getElem?_eq_none h'] at h
end

section
variable {C : Ctx} {Γ : FuncId → List D → RV} {fz : List Nat} {ops : Array Oper} {m : List Nat}

theorem stepD_sound {o : Oper} {σ σ' : St} {p : Prop} (hin : inB C.n o.dst = true) (h : stepD C.P Γ ops.toList fz o σ = some (σ', p)) (hp : p) {a : Act} {w : World} (S : Sim C σ a w)
    (K : Act → World → Prop) (Q : Exit → Act → World → Prop) (hK : ∀ a' w', Sim C σ' a' w' → K a' w') :
    if Region.wanted o (yielded ops a.tmps) then o.wp C.P a w K Q else K (a.put o.dst undef) w := by
  obtain ⟨g, x, h1, h2, rfl, rfl⟩ := stepD_spec h
  obtain ⟨out, ho, e1, e2, e3⟩ := outD_some h2
  obtain ⟨ι, S⟩ := S
  cases hgd : o.guard with
  | none =>
    simp only [gOf, hgd, Option.some.injEq] at h1; subst h1
    have hs : stepS C.P Γ C.n ops.toList fz o ⟨σ, []⟩ = some ⟨⟨putA o.dst out.av σ.e, out.hp ++ σ.h⟩, [(false, out.know), (true, out.side)]⟩ := by
      simp only [stepS, hin, cond_true, hgd, ho]
    obtain ⟨its, hi, hstep⟩ := step_sound hs
    simp only [List.append_nil] at hi
    have := hstep True (by rw [← hi]; simp only [fin]; exact ⟨e3 ▸ hp rfl, fun _ => trivial⟩) ι a w S K Q (fun _ ι' a' w' S' => hK a' w' (by
      simp only [wr, hw, hgd, e1, e2]; exact ⟨ι', S'⟩))
    simpa using this
  | some jw =>
    obtain ⟨j, want⟩ := jw
    simp only [gOf, hgd] at h1
    have hs : stepS C.P Γ C.n ops.toList fz o ⟨σ, []⟩ = some ⟨⟨putA o.dst (.gd g out.av) σ.e, hg g out.hp ++ σ.h⟩, [(false, g = true → out.know), (true, g = true → out.side)]⟩ := by
      simp only [stepS, hin, cond_true, hgd, h1, ho]
    obtain ⟨its, hi, hstep⟩ := step_sound hs
    simp only [List.append_nil] at hi
    have := hstep True (by rw [← hi]; simp only [fin]; exact ⟨e3 ▸ hp, fun _ => trivial⟩) ι a w S K Q (fun _ ι' a' w' S' => hK a' w' (by
      simp only [wr, hw, hgd, e1, e2]; exact ⟨ι', S'⟩))
    simpa using this

theorem any_sound {τ : St} {Q : Exit → Act → World → Prop} (hc : chkD C.n ops m = true) (hQ : ∀ a w, Sim C τ a w → Q .normal a w) :
    ∀ (fuel : Nat) (listed : Array Bool) (rem : List Nat) (σ τ' : St) (a : Act) (w : World), listed.size = ops.size → (∀ i, i ∈ rem ↔ i < ops.size ∧ listed.getD i true = false) → rem.Pairwise (· < ·) → rem.length ≤ fuel →
      (∀ (i : Nat) (o : Oper), ops[i]? = some o → listed.getD i false = true → ∀ t ∈ edg o, listed.getD t false = true) →
      Lx C.P Γ ops fz rem σ τ' → Eqv τ' τ → Sim C σ a w → wpAny C.P .any ops Q fuel listed a w := by
  obtain ⟨hn, hin, hpair⟩ := chkD_spec hc
  intro fuel
  induction fuel with
  | zero =>
    intro listed rem σ τ' a w hsz hrem hsrt hlen hcl hl hE S
    have hr : rem = [] := List.eq_nil_of_length_eq_zero (Nat.le_zero.1 hlen)
    subst hr
    simp only [Lx] at hl; subst hl
    refine ⟨?_, hQ _ _ (hE.sim S)⟩
    refine List.eq_nil_iff_forall_not_mem.2 fun i hi => ?_
    obtain ⟨h0, o, ho, _⟩ := mem_ready.1 hi
    exact absurd ((hrem i).2 ⟨(Array.getElem?_eq_some_iff.1 ho).1, h0⟩) (by simp)
  | succ fuel ih =>
    intro listed rem σ τ' a w hsz hrem hsrt hlen hcl hl hE S
    refine ⟨fun hnone => ?_, fun i hi => ?_⟩
    · cases rem with
      | nil => simp only [Lx] at hl; subst hl; exact hQ _ _ (hE.sim S)
      | cons i rest =>
        exfalso
        have hi := (hrem i).1 (by simp)
        have hr : i ∈ Region.ready .any ops listed := by
          refine mem_ready.2 ⟨hi.2, _, Array.getElem?_eq_getElem hi.1, fun e he hb => ?_⟩
          have hlt := (hpair i _ (Array.getElem?_eq_getElem hi.1)).1 e.on (mem_edg.2 ⟨e, he, hb, rfl⟩)
          have hnot : e.on ∉ i :: rest := fun hm => by
            simp only [List.mem_cons] at hm
            rcases hm with hm | hm
            · omega
            · have := (List.pairwise_cons.1 hsrt).1 _ hm; omega
          have hos : e.on < ops.size := Nat.lt_trans hlt hi.1
          rw [← getD_tf (by omega)]
          cases hb' : listed.getD e.on true
          · exact absurd ((hrem e.on).2 ⟨hos, hb'⟩) hnot
          · rfl
        rw [hnone] at hr; cases hr
    · obtain ⟨h0, oi, hoi, hedge⟩ := mem_ready.1 hi
      have his : i < ops.size := (Array.getElem?_eq_some_iff.1 hoi).1
      obtain ⟨pre, post, rfl⟩ := List.append_of_mem ((hrem i).2 ⟨his, h0⟩)
      have hlist : ∀ t ∈ edg oi, listed.getD t false = true := fun t ht => by
        obtain ⟨e, h1, h2, rfl⟩ := mem_edg.1 ht
        exact hedge e h1 h2
      rw [List.pairwise_append] at hsrt
      obtain ⟨s1, s2, s3⟩ := hsrt
      have hok : ∀ j ∈ pre, ∀ oj, ops[j]? = some oj → okPair ops oj oi = true := fun j hj oj hoj => by
        have hji := s3 j hj i (by simp)
        rcases (hpair i oi hoi).2 j hji with ⟨hb, _⟩ | ⟨_, hb⟩
        · have h1 := mask_listed hc hcl i oi hoi hlist j hji hb
          have h2 := ((hrem j).1 (by simp [hj])).2
          rw [getD_tf (getD_true_lt h2)] at h2
          rw [h2] at h1; cases h1
        · exact hb oj hoj
      obtain ⟨σ1, p, τ'', hs, hp, hE', hl'⟩ := Lx_take hn hin hoi hok hl
      unfold wpOp
      simp only [hoi]
      have hrem' : ∀ k, k ∈ pre ++ post ↔ k < ops.size ∧ (listed.setIfInBounds i true).getD k true = false := by
        intro k
        have hne : k ∈ pre ++ post → k ≠ i := by
          intro hk
          simp only [List.mem_append] at hk
          rcases hk with hk | hk
          · have := s3 k hk i (by simp); omega
          · have := (List.pairwise_cons.1 s2).1 k hk; omega
        by_cases hki : k = i
        · subst hki
          refine ⟨fun hk => absurd rfl (hne hk), fun hk => ?_⟩
          have := hk.2
          have hlt : k < listed.size := by omega
          simp [hlt] at this
        · rw [getD_set_ne true (Ne.symm hki), ← hrem k]
          simp [hki]
      have hcl' : ∀ (k : Nat) (o : Oper), ops[k]? = some o → (listed.setIfInBounds i true).getD k false = true → ∀ t ∈ edg o, (listed.setIfInBounds i true).getD t false = true := by
        intro k o hk hlk t ht
        by_cases hki : k = i
        · subst hki
          rw [hoi] at hk; cases hk
          exact getD_set_true (hlist t ht)
        · rw [getD_set_ne false (Ne.symm hki)] at hlk
          exact getD_set_true (hcl k o hk hlk t ht)
      have hsrt' : (pre ++ post).Pairwise (· < ·) := List.pairwise_append.2 ⟨s1, (List.pairwise_cons.1 s2).2, fun x hx y hy => s3 x hx y (by simp [hy])⟩
      have hlen' : (pre ++ post).length ≤ fuel := by simp only [List.length_append, List.length_cons] at hlen ⊢; omega
      have h3 := stepD_sound (hin i oi hoi) hs hp S (wpAny C.P .any ops Q fuel (listed.setIfInBounds i true)) Q (fun a' w' S' =>
        ih (listed.setIfInBounds i true) (pre ++ post) σ1 τ'' a' w' (by simpa using hsz) hrem' hsrt' hlen' hcl' hl' (hE'.symm.trans hE) S')
      split
      · rename_i hw; rw [if_pos hw] at h3; exact .inl h3
      · rename_i hw; rw [if_neg hw] at h3; exact h3

theorem WA_draw {K R : St → Prop} {E : Nat → St → Prop} {σ : St} {id : Nat} (Γ : FuncId → List D → RV) (fz V : List Nat) (hm : C.P.follows .mixedOrders = true) (hc : chkD C.n ops (mkM ops.toList []) = true)
    (h : Hold (runQ C.P Γ ops.toList fz ops.toList (some ⟨σ, []⟩)) (fun σ' => K (gather V σ'))) : WA C (.region id ops true) K R E σ := by
  unfold WA
  intro a w S
  obtain ⟨τ, hl, hK⟩ := runQ_Lx (ops := ops) ops.toList 0 ⟨σ, []⟩ (by simp) h
  refine wp_region_any hm ?_
  have S' : Sim C σ a { w with drawn := w.drawn + 1 } := by
    obtain ⟨ι, S⟩ := S
    exact ⟨ι, S.grow rfl rfl rfl (Nat.le_refl _) fun _ _ => rfl⟩
  refine any_sound (C := C) (τ := τ) hc (fun a w S => ⟨_, hK, S.gather V⟩) ops.size _ (List.range' 0 ops.toList.length) σ τ a _ (by simp) (fun i => ?_) ?_ (by simp) (fun i o hi hlst => ?_) hl (.refl _) S'
  · simp only [List.mem_range'_1, Array.length_toList]
    constructor
    · rintro ⟨_, h⟩
      have h' : i < ops.size := by omega
      exact ⟨h', by simp [h']⟩
    · rintro ⟨h, _⟩; omega
  · exact List.pairwise_lt_range'
  · have hlt := (Array.getElem?_eq_some_iff.1 hi).1
    simp [hlt] at hlst
end
end Go.Eng

namespace Go.Eng
open Go.RowKit

def NxtE {α : Type} (f : α → List (Nat × AV)) (fh : α → Hp) (e0 : List (Nat × AV)) (h0 : Hp) (I : α → Prop) (μ : α → Nat) (m : Nat) (σ' : St) : Prop :=
  ∃ x' ρ, I x' ∧ μ x' < m ∧ Sub ρ σ' ⟨f x' ++ e0, fh x' ++ h0⟩
theorem NxtE.mk {α : Type} {f : α → List (Nat × AV)} {fh : α → Hp} {e0 : List (Nat × AV)} {h0 : Hp} {I : α → Prop} {μ : α → Nat} {m : Nat} {σ' : St} (ρ : List (Nat × Option Nat)) (x' : α) (h3 : Sub ρ σ' ⟨f x' ++ e0, fh x' ++ h0⟩) (h1 : I x') (h2 : μ x' < m) : NxtE f fh e0 h0 I μ m σ' := ⟨x', ρ, h1, h2, h3⟩

theorem WA_loopE {C : Ctx} {K R : St → Prop} {E : Nat → St → Prop} {σ : St} {c : Code} {α : Type} (W WH : List Nat) (f : α → List (Nat × AV)) (fh : α → Hp) (I : α → Prop) (μ : α → Nat) (x0 : α) (ρ0 : List (Nat × Option Nat))
    (h0 : I x0) (hs0 : Sub ρ0 σ ⟨f x0 ++ clr W σ.e, fh x0 ++ clrh WH σ.h⟩)
    (hr : ∀ x, I x → WA C c (NxtE f fh (clr W σ.e) (clrh WH σ.h) I μ (μ x)) R E ⟨f x ++ clr W σ.e, fh x ++ clrh WH σ.h⟩) : WA C (.loop c) K R E σ :=
  WA_loop (fun x => ⟨f x ++ clr W σ.e, fh x ++ clrh WH σ.h⟩) I μ ⟨x0, h0, hs0.sim⟩
    (fun x hx => (hr x hx).mono (fun _ ⟨x', _, h1, h2, h3⟩ => ⟨x', h1, h2, h3.sim⟩) (fun _ h => h) (fun _ _ h => h))
end Go.Eng

namespace Go.Eng
structure Ev (p : Prop) : Prop where
  out : p
structure Is (p X : Prop) : Prop where
  symm : X = p
theorem Is.rfl {p : Prop} : Is p p := ⟨Eq.refl p⟩
theorem Is.ev {p X : Prop} (h : Is p X) (x : X) : Ev p := ⟨h.symm ▸ x⟩
section
variable {C : Ctx} {K R : St → Prop} {E : Nat → St → Prop} {σ : St}
theorem V_draw {id : Nat} {ops : Array Oper} (Γ : FuncId → List D → RV) (fz V : List Nat) (hm : C.P.follows .mixedOrders = true) (hc : chkD C.n ops (mkM ops.toList []) = true)
    (h : Ev (Hold (runQ C.P Γ ops.toList fz ops.toList (some ⟨σ, []⟩)) (fun σ' => K (gather V σ')))) : WA C (.region id ops true) K R E σ := WA_draw Γ fz V hm hc h.out
theorem V_cond {c : Operand} {x y : Code} (h : Ev (Cnd (opnd σ.e c) (WA C x K R E σ) (WA C y K R E σ))) : WA C (.cond c x y) K R E σ := WA_cond h.out
theorem V_exit {i : Nat} (h : Ev (E i σ)) : WA C (.exit i) K R E σ := WA_exit h.out
theorem V_ret (h : Ev (R σ)) : WA C .ret K R E σ := WA_ret h.out
theorem V_end {p : Prop} (h : Ev p) : p := h.out
theorem V_next {α : Type} {f : α → List (Nat × AV)} {fh : α → Hp} {e0 : List (Nat × AV)} {h0 : Hp} {I : α → Prop} {μ : α → Nat} {m : Nat} (ρ : List (Nat × Option Nat)) (x' : α) (h3 : Ev (Sub ρ σ ⟨f x' ++ e0, fh x' ++ h0⟩)) (h1 : I x') (h2 : μ x' < m) : NxtE f fh e0 h0 I μ m σ := .mk ρ x' h3.out h1 h2
theorem V_loop {c : Code} {α : Type} (W WH : List Nat) (f : α → List (Nat × AV)) (fh : α → Hp) (I : α → Prop) (μ : α → Nat) (x0 : α) (ρ0 : List (Nat × Option Nat))
    (h0 : I x0) (hs0 : Ev (Sub ρ0 σ ⟨f x0 ++ clr W σ.e, fh x0 ++ clrh WH σ.h⟩))
    (hr : ∀ x, I x → WA C c (NxtE f fh (clr W σ.e) (clrh WH σ.h) I μ (μ x)) R E ⟨f x ++ clr W σ.e, fh x ++ clrh WH σ.h⟩) : WA C (.loop c) K R E σ := WA_loopE W WH f fh I μ x0 ρ0 h0 hs0.out hr
end
end Go.Eng

namespace Go.Eng
open Go.RowKit

inductive PX where
  | ro (b : AV)
  | mu (x x' : Ent) (o m n : Nat)
  | mb (T : Nat) (c c' : List AV)

def PX.av (i : Nat) : PX → AV
  | .ro b => b
  | .mu _ _ o m n => .vw (30000 + i) o m n
  | .mb .. => .pt (30000 + i) 0

def hpI (i : Nat) : List PX → Hp
  | [] => []
  | .ro _ :: l => hpI (i + 1) l
  | .mu x _ _ _ _ :: l => (30000 + i, some (true, x)) :: hpI (i + 1) l
  | .mb T c _ :: l => (30000 + i, some (true, .box T c)) :: hpI (i + 1) l
def hpO (i : Nat) : List PX → Hp
  | [] => []
  | .ro _ :: l => hpO (i + 1) l
  | .mu _ x _ _ _ :: l => (30000 + i, some (true, x)) :: hpO (i + 1) l
  | .mb T _ c :: l => (30000 + i, some (true, .box T c)) :: hpO (i + 1) l

def RepX (ok : Nat → Prop) (ι : Nat → Option (Nat × Nat)) (w : World) (i : Nat) : List PX → List Value → Prop
  | [], vs => vs = []
  | p :: l, vs => ∃ v vs', vs = v :: vs' ∧ RepA ok ι w (p.av i) v ∧ RepX ok ι w (i + 1) l vs'

def FnX (P : Program) (f : FuncId) (ps : List PX) (r : RV) : Prop :=
  ∀ (w : World) (vs : Array Value) (ι : Nat → Option (Nat × Nat)),
    (∀ nm x, geth (hpI 0 ps) nm = some (true, x) → EntOk (· < w.heap.size) (okOf (fun _ => False) (hpI 0 ps) ι w) ι w nm x) →
    (∀ nm nm' x x' b c c', geth (hpI 0 ps) nm = some (true, x) → geth (hpI 0 ps) nm' = some (true, x') → nm ≠ nm' → ι nm = some (b, c) → ι nm' ≠ some (b, c')) →
    RepX (okOf (fun _ => False) (hpI 0 ps) ι w) ι w 0 ps vs.toList →
    Calls P f vs w fun e w' => ∃ v, e = .returned v ∧ (w'.os = w.os ∧ w'.tape = w.tape ∧ w'.output = w.output ∧ w.heap.size ≤ w'.heap.size) ∧
      (∀ b, okOf (fun _ => False) (hpI 0 ps) ι w b → w'.heap[b]? = w.heap[b]?) ∧
      (∀ nm x, geth (hpO 0 ps) nm = some (true, x) → EntOk (fun _ => True) (fun _ => True) ι w' nm x) ∧ RepR (fun _ => True) w' r v []

def pinned (i : Nat) (u : Nat → Value) : List PX → List (Nat × AV)
  | [] => []
  | .ro b :: l => (i, b) :: pinned (i + 1) u l
  | .mu _ _ o m n :: l => (i, .pin (u i) (.vw (30000 + i) o m n)) :: pinned (i + 1) u l
  | .mb .. :: l => (i, .pin (u i) (.pt (30000 + i) 0)) :: pinned (i + 1) u l

def isPin (u : Value) (A : AV) : AV → Prop
  | .pin u' B => u' = u ∧ B = A
  | _ => False
def isEnt (x : Ent) : Option (Bool × Ent) → Prop
  | some (g, y) => g = true ∧ y = x
  | none => False
def outX (u : Nat → Value) (σ : St) (i : Nat) : List PX → Prop
  | [] => True
  | .ro _ :: l => outX u σ (i + 1) l
  | .mu _ x' o m n :: l => (isPin (u i) (.vw (30000 + i) o m n) (get σ.e i) ∧ isEnt x' (geth σ.h (30000 + i))) ∧ outX u σ (i + 1) l
  | .mb T _ c :: l => (isPin (u i) (.pt (30000 + i) 0) (get σ.e i) ∧ isEnt (.box T c) (geth σ.h (30000 + i))) ∧ outX u σ (i + 1) l

mutual
def AV.datP : AV → Bool
  | .dat d => d.plain
  | _ => false
def AV.datPs : List AV → Bool
  | [] => true
  | a :: l => a.datP && AV.datPs l
end
def Ent.plain : Ent → Bool
  | .arr _ _ l => D.plainLL l
  | .box _ c => AV.datPs c
def AV.dats : List AV → Bool
  | [] => true
  | .dat _ :: l => AV.dats l
  | _ => false
def Ent.isArr : Ent → Bool
  | .arr .. => true
  | _ => false
def PX.plain : PX → Bool
  | .ro _ => true
  | .mu x x' _ _ _ => x.isArr && x'.plain
  | .mb T c c' => AV.dats c && (Ent.box T c').plain
def PX.plains : List PX → Bool
  | [] => true
  | p :: l => p.plain && PX.plains l

section
variable {ok ok' : Nat → Prop} {ι ι' : Nat → Option (Nat × Nat)} {w w' : World}
theorem RepAs_datP : ∀ {c : List AV} {vs : List Value}, AV.datPs c = true → RepAs ok ι w true c vs → RepAs ok' ι' w' true c vs
  | [], vs, _, h => by simpa only [RepAs] using h
  | a :: l, vs, hp, h => by
    simp only [AV.datPs, Bool.and_eq_true] at hp
    simp only [RepAs] at h ⊢
    obtain ⟨v, vs', e, h1, h2, h3⟩ := h
    refine ⟨v, vs', e, ?_, h2, RepAs_datP hp.2 h3⟩
    cases a with
    | dat d => simp only [RepA] at h1 ⊢; exact RepD_plain d v (by simpa only [AV.datP] using hp.1) h1
    | _ => simp [AV.datP] at hp

theorem EntOk.to {own own' : Nat → Prop} {nm nm' : Nat} {x : Ent} (hp : x.plain = true) (ho : ∀ b c, ι nm = some (b, c) → own' b) (hi : ι' nm' = ι nm) (h : EntOk own ok ι w nm x) : EntOk own' ok' ι' w nm' x := by
  cases x with
  | box T c =>
    obtain ⟨b, cap, cur, h1, h2, h3, h4⟩ := h
    exact ⟨b, cap, cur, hi.trans h1, ⟨ho b cap h1, h2.2⟩, h3, RepAs_datP (by simpa only [Ent.plain] using hp) h4⟩
  | arr T n l =>
    rcases h with ⟨h1, h2⟩ | ⟨b, cap, cur, h1, h2, h3, h4, h5, h6, h7⟩
    · exact .inl ⟨hi.trans h1, h2⟩
    · exact .inr ⟨b, cap, cur, hi.trans h1, ho b cap h1, h3, h4, h5, h6, RepDss_plain l _ (by simpa only [Ent.plain] using hp) h7⟩
theorem EntOk.box_to {own own' : Nat → Prop} {nm T : Nat} {c : List AV} (hp : (Ent.box T c).plain = true) (ho : ∀ b c, ι nm = some (b, c) → own' b) (hi : ∀ b c, ι nm = some (b, c) → ι' nm = some (b, 0)) (h : EntOk own ok ι w nm (.box T c)) : EntOk own' ok' ι' w nm (.box T c) := by
  obtain ⟨b, cap, cur, h1, h2, h3, h4⟩ := h
  exact ⟨b, 0, cur, hi b cap h1, ⟨ho b cap h1, rfl⟩, h3, RepAs_datP (by simpa only [Ent.plain] using hp) h4⟩
end

theorem RepX_length {ok : Nat → Prop} {ι : Nat → Option (Nat × Nat)} {w : World} : ∀ {l : List PX} {i : Nat} {vs : List Value}, RepX ok ι w i l vs → vs.length = l.length
  | [], i, vs, h => by simp only [RepX] at h; simp [h]
  | p :: l, i, vs, h => by
    simp only [RepX] at h
    obtain ⟨v, vs', rfl, _, h⟩ := h
    simp [RepX_length h]

theorem pinned_rep {ok : Nat → Prop} {ι : Nat → Option (Nat × Nat)} {w : World} {u : Nat → Value} : ∀ {l : List PX} {i : Nat} {vs : List Value}, RepX ok ι w i l vs → (∀ j v, vs[j]? = some v → u (i + j) = v) →
    ∀ s, RepA ok ι w (get (pinned i u l) s) (u s)
  | [], i, vs, h, hu, s => by simp only [pinned, get, RepA]
  | p :: l, i, vs, h, hu, s => by
    simp only [RepX] at h
    obtain ⟨v, vs', rfl, h1, h⟩ := h
    have ih := pinned_rep h (u := u) (fun j v hv => by have := hu (j + 1) v (by simpa using hv); rw [← this]; congr 1; omega) s
    have hv : u i = v := hu 0 v (by simp)
    cases p <;> simp only [pinned, get] <;> cases hs : i == s
    all_goals (simp only [cond_false, cond_true]; first | exact ih | skip)
    all_goals (have hs' : i = s := by simpa using hs)
    all_goals subst hs'
    · rw [hv]; simpa only [PX.av] using h1
    · simp only [RepA, hv, true_and]; simpa only [PX.av, RepA] using h1
    · simp only [RepA, hv, true_and]; simpa only [PX.av, RepA] using h1

theorem hpI_ge : ∀ {l : List PX} {i nm : Nat} {p : Bool × Ent}, geth (hpI i l) nm = some p → 30000 + i ≤ nm
  | [], i, nm, p, h => by simp [hpI, geth] at h
  | .ro _ :: l, i, nm, p, h => by simp only [hpI] at h; have := hpI_ge h; omega
  | .mu x x' o m n :: l, i, nm, p, h | .mb T c c' :: l, i, nm, p, h => by
    simp only [hpI, geth] at h
    cases hs : 30000 + i == nm
    · rw [hs, cond_false] at h; have := hpI_ge h; omega
    · have : 30000 + i = nm := by simpa using hs
      omega
theorem hpO_ge : ∀ {l : List PX} {i nm : Nat} {p : Bool × Ent}, geth (hpO i l) nm = some p → 30000 + i ≤ nm
  | [], i, nm, p, h => by simp [hpO, geth] at h
  | .ro _ :: l, i, nm, p, h => by simp only [hpO] at h; have := hpO_ge h; omega
  | .mu x x' o m n :: l, i, nm, p, h | .mb T c c' :: l, i, nm, p, h => by
    simp only [hpO, geth] at h
    cases hs : 30000 + i == nm
    · rw [hs, cond_false] at h; have := hpO_ge h; omega
    · have : 30000 + i = nm := by simpa using hs
      omega

theorem outX_rep {C : Ctx} {σ : St} {ι ι1 : Nat → Option (Nat × Nat)} {a : Act} {w w1 : World} {ok1 : Nat → Prop} {u : Nat → Value} (S : SimI C σ ι a w) : ∀ {l : List PX} {i : Nat} {vs : List Value}, RepX ok1 ι1 w1 i l vs →
    (∀ nm T c b cap, geth (hpI i l) nm = some (true, .box T c) → ι1 nm = some (b, cap) → cap = 0) →
    (∀ j v, vs[j]? = some v → u (i + j) = v) → PX.plains l = true → outX u σ i l → ∀ nm x, geth (hpO i l) nm = some (true, x) → EntOk (fun _ => True) (fun _ => True) ι1 w nm x
  | [], i, vs, h, hz, hu, hp, ho, nm, x, hx => by simp [hpO, geth] at hx
  | .ro _ :: l, i, vs, h, hz, hu, hp, ho, nm, x, hx => by
    simp only [RepX] at h
    obtain ⟨v, vs', rfl, h1, h⟩ := h
    simp only [hpO] at hx
    simp only [PX.plains, Bool.and_eq_true] at hp
    simp only [outX] at ho
    exact outX_rep S h (fun nm T c b cap hg => hz nm T c b cap (by simpa only [hpI] using hg)) (fun j v hv => by have := hu (j + 1) v (by simpa using hv); rw [← this]; congr 1; omega) hp.2 ho nm x hx
  | .mu y y' o m n :: l, i, vs, h, hz, hu, hp, ho, nm, x, hx => by
    simp only [RepX] at h
    obtain ⟨v, vs', rfl, h1, h⟩ := h
    simp only [hpO, geth] at hx
    simp only [PX.plains, Bool.and_eq_true] at hp
    simp only [outX] at ho
    obtain ⟨⟨hpin, hent⟩, ho⟩ := ho
    cases hs : 30000 + i == nm
    · rw [hs, cond_false] at hx
      exact outX_rep S h (fun nm T c b cap hg => hz nm T c b cap (by have := hpI_ge hg; have e : (30000 + i == nm) = false := by simp; omega
                                                                     simp only [hpI, geth, e, cond_false]; exact hg)) (fun j v hv => by have := hu (j + 1) v (by simpa using hv); rw [← this]; congr 1; omega) hp.2 ho nm x hx
    · rw [hs, cond_true] at hx
      have hs' : 30000 + i = nm := by simpa using hs
      subst hs'
      simp only [Option.some.injEq, Prod.mk.injEq, true_and] at hx
      subst hx
      have hv : u i = v := hu 0 v (by simp)
      cases hg : get σ.e i with
      | pin u' B =>
        rw [hg] at hpin
        simp only [isPin] at hpin
        obtain ⟨rfl, rfl⟩ := hpin
        have he := S.env i
        rw [hg] at he
        simp only [RepA] at he
        simp only [PX.av, RepA] at h1
        obtain ⟨he, hr⟩ := he
        rw [he, hv] at hr
        cases hh : geth σ.h (30000 + i) with
        | none => rw [hh] at hent; exact hent.elim
        | some p =>
          obtain ⟨g, z⟩ := p
          rw [hh] at hent
          simp only [isEnt] at hent
          obtain ⟨rfl, rfl⟩ := hent
          have E := S.ent _ _ hh
          have hii : ι1 (30000 + i) = ι (30000 + i) := by
            rcases hr with ⟨e1, e2, _⟩ | ⟨b, c, e1, e2, e3⟩
            · rcases h1 with ⟨f1, f2, _⟩ | ⟨b', c', f1, f2, f3⟩
              · rw [e1, f1]
              · rw [e2] at f2; simp at f2
            · rcases h1 with ⟨f1, f2, _⟩ | ⟨b', c', f1, f2, f3⟩
              · rw [e2] at f2; simp at f2
              · rw [e2] at f2
                simp only [Value.slice.injEq, Option.some.injEq, Addr.mk.injEq] at f2
                rw [e1, f1]
                congr 2
                · exact f2.1.1.symm
                · omega
          exact E.to (by have := hp.1; simp only [PX.plain, Bool.and_eq_true] at this; exact this.2) (fun _ _ _ => trivial) hii
      | _ => rw [hg] at hpin; exact hpin.elim
  | .mb T y y' :: l, i, vs, h, hz, hu, hp, ho, nm, x, hx => by
    simp only [RepX] at h
    obtain ⟨v, vs', rfl, h1, h⟩ := h
    simp only [hpO, geth] at hx
    simp only [PX.plains, Bool.and_eq_true] at hp
    simp only [outX] at ho
    obtain ⟨⟨hpin, hent⟩, ho⟩ := ho
    cases hs : 30000 + i == nm
    · rw [hs, cond_false] at hx
      exact outX_rep S h (fun nm T c b cap hg => hz nm T c b cap (by have := hpI_ge hg; have e : (30000 + i == nm) = false := by simp; omega
                                                                     simp only [hpI, geth, e, cond_false]; exact hg)) (fun j v hv => by have := hu (j + 1) v (by simpa using hv); rw [← this]; congr 1; omega) hp.2 ho nm x hx
    · rw [hs, cond_true] at hx
      have hs' : 30000 + i = nm := by simpa using hs
      subst hs'
      simp only [Option.some.injEq, Prod.mk.injEq, true_and] at hx
      subst hx
      have hv : u i = v := hu 0 v (by simp)
      cases hg : get σ.e i with
      | pin u' B =>
        rw [hg] at hpin
        simp only [isPin] at hpin
        obtain ⟨rfl, rfl⟩ := hpin
        have he := S.env i
        rw [hg] at he
        simp only [RepA] at he
        simp only [PX.av, RepA] at h1
        obtain ⟨he, hr⟩ := he
        rw [he, hv] at hr
        cases hh : geth σ.h (30000 + i) with
        | none => rw [hh] at hent; exact hent.elim
        | some p =>
          obtain ⟨g, z⟩ := p
          rw [hh] at hent
          simp only [isEnt] at hent
          obtain ⟨rfl, rfl⟩ := hent
          have E := S.ent _ _ hh
          obtain ⟨b, c, e1, e2⟩ := hr
          obtain ⟨b', c', f1, f2⟩ := h1
          rw [e2] at f2
          simp only [Value.pointer.injEq, Option.some.injEq, Addr.mk.injEq] at f2
          exact E.box_to (by have := hp.1; simp only [PX.plain, Bool.and_eq_true] at this; exact this.2) (fun _ _ _ => trivial) (fun b1 c1 h1 => by
            rw [e1] at h1; simp only [Option.some.injEq, Prod.mk.injEq] at h1
            have := hz (30000 + i) T y b' c' (by simp [hpI, geth]) f1
            subst this
            rw [f1, ← h1.1, f2.1])
      | _ => rw [hg] at hpin; exact hpin.elim

mutual
def RV.flat : RV → Bool
  | .dat _ => true
  | .own .. => false
  | .agg l => RV.flats l
  | .tup l => RV.flats l
def RV.flats : List RV → Bool
  | [] => true
  | r :: l => r.flat && RV.flats l
end
mutual
theorem retA_flat (h : Hp) : ∀ (x : AV) (r : RV) (n : List Nat) (p : Prop), r.flat = true → retA h x r = some (n, p) → n = []
  | x, r, n, p, hf, hr => by
    unfold retA at hr
    split at hr
    · simp [RV.flat] at hf
    · exact retDs_flat h _ _ n p (by simpa only [RV.flat] using hf) hr
    · simp only [Option.some.injEq, Prod.mk.injEq] at hr; exact hr.1.symm
    · simp [RV.flat] at hf
    · exact retAs_flat h _ _ n p (by simpa only [RV.flat] using hf) hr
    · split at hr
      · split at hr
        · simp only [Option.some.injEq, Prod.mk.injEq] at hr; exact hr.1.symm
        · cases hr
      · cases hr
    · cases hr
theorem retAs_flat (h : Hp) : ∀ (l : List AV) (rs : List RV) (n : List Nat) (p : Prop), RV.flats rs = true → retAs h l rs = some (n, p) → n = []
  | [], [], n, p, hf, hr => by simp only [retAs, Option.some.injEq, Prod.mk.injEq] at hr; exact hr.1.symm
  | a :: l, r :: rs, n, p, hf, hr => by
    simp only [RV.flats, Bool.and_eq_true] at hf
    simp only [retAs] at hr
    split at hr
    · rename_i n1 p1 n2 p2 e1 e2
      simp only [Option.some.injEq, Prod.mk.injEq] at hr
      have := retA_flat h a r n1 p1 hf.1 e1; have := retAs_flat h l rs n2 p2 hf.2 e2
      subst n1 n2; exact hr.1.symm
    · cases hr
  | [], _ :: _, n, p, hf, hr => by simp [retAs] at hr
  | _ :: _, [], n, p, hf, hr => by simp [retAs] at hr
theorem retDs_flat (h : Hp) : ∀ (l : List D) (rs : List RV) (n : List Nat) (p : Prop), RV.flats rs = true → retDs h l rs = some (n, p) → n = []
  | l, rs, n, p, hf, hr => by
    unfold retDs at hr
    split at hr
    · simp only [Option.some.injEq, Prod.mk.injEq] at hr; exact hr.1.symm
    · split at hr
      · rename_i n2 p2 e2
        simp only [Option.some.injEq, Prod.mk.injEq] at hr
        have := retDs_flat h _ _ n2 p2 (by simp only [RV.flats, Bool.and_eq_true] at hf; exact hf.2) e2
        rw [← hr.1, this]
      · cases hr
    · simp [RV.flats, RV.flat] at hf
    · cases hr
end
theorem FnX.of {P : Program} {f : FuncId} {fn : Func} {c : Code} {ps : List PX} {r : RV} (hf : P.funcs[f]? = some fn) (hb : fn.body = some c) (hl : ps.length ≤ fn.ntmps) (hpl : PX.plains ps = true) (hfl : r.flat = true)
    (h : ∀ w0 X u, WA ⟨P, w0, X, fn.ntmps, fun _ => False⟩ c (fun σ => Ret P fn.results.toList r σ ∧ outX u σ 0 ps) (fun σ => Ret P fn.results.toList r σ ∧ outX u σ 0 ps) (fun _ _ => False) ⟨pinned 0 u ps, hpI 0 ps⟩) : FnX P f ps r := by
  intro w vs ι hent hinj hargs
  have hlen := RepX_length hargs
  simp only [Array.length_toList] at hlen
  let X : Nat → Prop := fun b => ∃ nm x c, geth (hpI 0 ps) nm = some (true, x) ∧ ι nm = some (b, c)
  let u : Nat → Value := fun s => (vs ++ Array.replicate (fn.ntmps - vs.size) undef).getD s undef
  have hu : ∀ j v, vs.toList[j]? = some v → u (0 + j) = v := by
    intro j v hv
    have hs : j < vs.size := by
      have := (List.getElem?_eq_some_iff.1 hv).1
      simpa using this
    simp only [Array.getElem?_toList] at hv
    simp [u, Array.getD_eq_getD_getElem?, Array.getElem?_append_left hs, hv]
  have hFe : Ctx.F ⟨P, w, X, fn.ntmps, fun _ => False⟩ = fun _ => False := by funext b; simp [Ctx.F]
  have S0 : SimI ⟨P, w, X, fn.ntmps, fun _ => False⟩ ⟨pinned 0 u ps, hpI 0 ps⟩ ι { tmps := vs ++ Array.replicate (fn.ntmps - vs.size) undef, defers := [] } w := by
    refine ⟨fun s => ?_, fun nm x hx => ?_, hinj, rfl, rfl, rfl, Nat.le_refl _, fun _ _ _ => rfl, rfl, by simp; omega⟩
    · rw [hFe]; exact pinned_rep hargs hu s
    · rw [hFe]
      have E := hent nm x hx
      cases x with
      | box T c =>
        obtain ⟨b, cap, cur, h1, h2, h3, h4⟩ := E
        exact ⟨b, cap, cur, h1, ⟨.inr ⟨nm, _, cap, hx, h1⟩, h2.2⟩, h3, h4⟩
      | arr T n l =>
        rcases E with ⟨h1, h2⟩ | ⟨b, cap, cur, h1, h2, h3, h4, h5, h6, h7⟩
        · exact .inl ⟨h1, h2⟩
        · exact .inr ⟨b, cap, cur, h1, .inr ⟨nm, _, cap, hx, h1⟩, h3, h4, h5, h6, h7⟩
  refine calls_of_wp hf hb (wp_mono ((h w X u).app _ w ⟨_, S0⟩) fun e a w' hq => ?_)
  have key : ∀ σ, (Ret P fn.results.toList r σ ∧ outX u σ 0 ps) → Sim ⟨P, w, X, fn.ntmps, fun _ => False⟩ σ a w' → a.defers = [] ∧ ∃ v, (results fn a.tmps).run P w' = .ok v w' ∧ ∃ v', Ending.returned v = .returned v' ∧ (w'.os = w.os ∧ w'.tape = w.tape ∧ w'.output = w.output ∧ w.heap.size ≤ w'.heap.size) ∧
      (∀ b, okOf (fun _ => False) (hpI 0 ps) ι w b → w'.heap[b]? = w.heap[b]?) ∧
      (∀ nm x, geth (hpO 0 ps) nm = some (true, x) → EntOk (fun _ => True) (fun _ => True) ι w' nm x) ∧ RepR (fun _ => True) w' r v' [] := by
    intro σ ⟨hret, hout⟩ S
    obtain ⟨ι', S⟩ := S
    refine ⟨S.def0, ?_⟩
    unfold Ret at hret
    split at hret
    · exact hret.elim
    · rename_i as p has
      obtain ⟨hp, hret⟩ := hret
      obtain ⟨vals, hv1, hv2⟩ := resA_rep S fn.results.toList as p has hp
      have hv1' : (fn.results.toList.mapM fun (x : ResultVar) => (match x with | .tmp t => pure (a.tmps.getD t undef) | .cell t T => do loadVar T (← asAddr (a.tmps.getD t undef)) : Sem Value)).run P w' = .ok vals w' := hv1
      have hres : (results fn a.tmps).run P w' = .ok (if h : vals.toArray.size = 1 then vals.toArray[0] else .tuple vals.toArray) w' := by
        unfold results
        simp only [Array.mapM_eq_mapM_toList, Sem.run_bind]
        have h2 : (do let r ← fn.results.toList.mapM fun (x : ResultVar) => (match x with | .tmp t => pure (a.tmps.getD t undef) | .cell t T => do loadVar T (← asAddr (a.tmps.getD t undef)) : Sem Value); pure r.toArray : Sem (Array Value)).run P w' = .ok vals.toArray w' := by
          simp only [Sem.run_bind, hv1', Result.andThen_ok, Sem.run_pure]
        have h3 : (List.toArray <$> fn.results.toList.mapM fun (x : ResultVar) => (match x with | .tmp t => pure (a.tmps.getD t undef) | .cell t T => do loadVar T (← asAddr (a.tmps.getD t undef)) : Sem Value)).run P w' = .ok vals.toArray w' := h2
        refine (congrArg (fun r => Result.andThen r _) h3).trans ?_
        simp only [Result.andThen_ok, Sem.run_pure]
      have hold : ∀ b, okOf (fun _ => False) (hpI 0 ps) ι w b → w'.heap[b]? = w.heap[b]? := fun b hb => S.old b hb.1 (fun ⟨nm, x, c, h1, h2⟩ => hb.2.1 nm x c h1 h2)
      have hents : ∀ nm x, geth (hpO 0 ps) nm = some (true, x) → EntOk (fun _ => True) (fun _ => True) ι w' nm x := outX_rep S hargs (fun nm T c b cap hg hi => by
        obtain ⟨b', cap', cur, h1, h2, _⟩ := hent nm _ hg
        rw [hi] at h1; simp only [Option.some.injEq, Prod.mk.injEq] at h1
        rw [h1.2]; exact h2.2) hu hpl hout
      split at hret
      · rename_i x
        split at hret
        · rename_i n q hra
          simp only [RepAs] at hv2
          obtain ⟨v, vs', rfl, hx, _, rfl⟩ := hv2
          obtain ⟨h1, h2⟩ := retA_rep S x r v n q hx hra hret.2
          rw [retA_flat σ.h x r n q hfl hra] at h1
          exact ⟨v, by rw [hres]; simp, v, rfl, ⟨S.os, S.tape, S.output, S.size⟩, hold, hents, RepR_tr (fun _ _ => trivial) _ _ _ h1⟩
        · exact hret.elim
      · rename_i r' rs hne
        split at hret
        · rename_i n q hra
          obtain ⟨h1, h2⟩ := retAs_rep S false as rs vals n q hv2 hra hret.2
          rw [retAs_flat σ.h as rs n q (by simpa only [RV.flat] using hfl) hra] at h1
          have hlv := RepAs_length hv2
          have hn1 : ¬ vals.length = 1 := by
            intro h1
            rw [hlv] at h1
            obtain ⟨x, hx⟩ := List.length_eq_one_iff.1 h1
            exact hne x hx
          exact ⟨.tuple vals.toArray, by rw [hres]; simp [hn1], .tuple vals.toArray, rfl, ⟨S.os, S.tape, S.output, S.size⟩, hold, hents, by simp only [RepR]; exact ⟨vals, rfl, RepRs_tr (fun _ _ => trivial) _ _ _ _ h1⟩⟩
        · exact hret.elim
      · exact hret.elim
  cases e with
  | normal => obtain ⟨σ, h1, h2⟩ := hq; exact key σ h1 h2
  | ret => obtain ⟨σ, h1, h2⟩ := hq; exact key σ h1 h2
  | exit i => obtain ⟨σ, h1, h2⟩ := hq; exact h1.elim
  | goto l => exact hq.elim
  | panic ch => exact hq.elim
  | outgrown => exact hq.elim

def argX (h : Hp) (i : Nat) (a : AV) : PX → Option (Prop × List (Nat × Nat × Ent))
  | .ro (.dat d) => match toD h a with
    | some (d', p) => some (d' = d ∧ p, [])
    | none => none
  | .ro (.rp l) => match a with
    | .rp l' => some (l' = l, [])
    | .pt nm o => match geth h nm with
      | some (g', .box _ c) => some (g' = true ∧ c.drop o = l.map AV.dat, [])
      | _ => none
    | _ => none
  | .mu x x' o m n => match a with
    | .vw nm o' m' n' => match geth h nm with
      | some (g', y) => some (g' = true ∧ y = x ∧ o' = o ∧ m' = m ∧ n' = n, [(30000 + i, nm, x')])
      | none => none
    | _ => none
  | .mb T c c' => match a with
    | .pt nm o => match geth h nm with
      | some (g', .box T' c0) => some (g' = true ∧ T' = T ∧ c0 = c ∧ o = 0, [(30000 + i, nm, .box T c')])
      | _ => none
    | _ => none
  | _ => none
def argsX (h : Hp) (i : Nat) : List AV → List PX → Option (Prop × List (Nat × Nat × Ent))
  | [], [] => some (True, [])
  | a :: as, p :: ps => match argX h i a p, argsX h (i + 1) as ps with
    | some (q, l), some (q', l') => some (q ∧ q', l ++ l')
    | _, _ => none
  | _, _ => none
def roX (nms : List Nat) : List AV → List PX → Bool
  | a :: as, .ro _ :: ps => nms.all (fun k => !a.refs k) && roX nms as ps
  | _ :: as, _ :: ps => roX nms as ps
  | _, _ => true
def nmsX (L : List (Nat × Nat × Ent)) : List Nat := L.map fun t => t.2.1
def hpX (L : List (Nat × Nat × Ent)) : Hp := L.map fun t => (t.2.1, some (true, t.2.2))
def renX (L : List (Nat × Nat × Ent)) (ι : Nat → Option (Nat × Nat)) (k : Nat) : Option (Nat × Nat) := match L with
  | [] => none
  | t :: l => if t.1 = k then ι t.2.1 else renX l ι k
def vCallX (P : Program) (Δ : FuncId → List AV → Hp → Option (List PX × RV)) (f : FuncId) (g : Bool) (σ : St) (as : List AV) : Option Out :=
  match Δ f (as.map sp) σ.h with
  | none => none
  | some (ps, r) => match argsX σ.h 0 (as.map sp) ps with
    | none => none
    | some (p, L) => bif noDup (nmsX L) && roX (nmsX L) (as.map sp) ps && r.flat && isFn P f then some ⟨still r, hpX L, pkl g as ∧ p ∧ PX.plains ps = true ∧ r.plain ∧ FnX P f ps r, True⟩ else none

section
variable {C : Ctx} {σ : St} {o : Oper} {g : Bool} {ι : Nat → Option (Nat × Nat)} {a : Act} {w : World}

theorem argX_live {h : Hp} {i : Nat} {A : AV} {p : PX} {q : Prop} {L : List (Nat × Nat × Ent)} (hx : argX h i A p = some (q, L)) (hq : q) : ∀ t ∈ L, t.1 = 30000 + i ∧ A.refs t.2.1 = true ∧ (∃ x, geth h t.2.1 = some (true, x) ∧ geth (hpI i [p]) (30000 + i) = some (true, x)) ∧ geth (hpO i [p]) (30000 + i) = some (true, t.2.2) := by
  unfold argX at hx
  split at hx
  · split at hx
    · simp only [Option.some.injEq, Prod.mk.injEq] at hx; obtain ⟨_, rfl⟩ := hx; simp
    · cases hx
  · split at hx
    · simp only [Option.some.injEq, Prod.mk.injEq] at hx; obtain ⟨_, rfl⟩ := hx; simp
    · split at hx
      · simp only [Option.some.injEq, Prod.mk.injEq] at hx; obtain ⟨_, rfl⟩ := hx; simp
      · cases hx
    · cases hx
  · split at hx
    · split at hx
      · rename_i g' y hg
        simp only [Option.some.injEq, Prod.mk.injEq] at hx
        obtain ⟨rfl, rfl⟩ := hx
        obtain ⟨rfl, rfl, rfl, rfl, rfl⟩ := hq
        intro t ht
        simp only [List.mem_singleton] at ht; subst ht
        exact ⟨rfl, by simp [AV.refs], ⟨_, hg, by simp [hpI, geth]⟩, by simp [hpO, geth]⟩
      · cases hx
    · cases hx
  · split at hx
    · split at hx
      · rename_i g' T' c0 hg
        simp only [Option.some.injEq, Prod.mk.injEq] at hx
        obtain ⟨rfl, rfl⟩ := hx
        obtain ⟨rfl, rfl, rfl, rfl⟩ := hq
        intro t ht
        simp only [List.mem_singleton] at ht; subst ht
        exact ⟨rfl, by simp [AV.refs], ⟨_, hg, by simp [hpI, geth]⟩, by simp [hpO, geth]⟩
      · cases hx
    · cases hx
  · cases hx
end
end Go.Eng

namespace Go.Eng
open Go.RowKit

section
variable {C : Ctx} {σ : St} {o : Oper} {g : Bool} {ι : Nat → Option (Nat × Nat)} {a : Act} {w : World}

theorem hpI_cons (i : Nat) (p : PX) (ps : List PX) : hpI i (p :: ps) = hpI i [p] ++ hpI (i + 1) ps := by cases p <;> simp [hpI]
theorem hpO_cons (i : Nat) (p : PX) (ps : List PX) : hpO i (p :: ps) = hpO i [p] ++ hpO (i + 1) ps := by cases p <;> simp [hpO]
theorem geth_append {k : Nat} : ∀ {h h' : Hp} {x : Bool × Ent}, geth h k = some x → geth (h ++ h') k = some x
  | [], h', x, hx => by simp [geth] at hx
  | (j, y) :: l, h', x, hx => by
    simp only [List.cons_append, geth] at hx ⊢
    cases hs : j == k
    · rw [hs] at hx; exact geth_append hx
    · rw [hs] at hx; exact hx
theorem hpI_split {i k : Nat} {p : PX} {ps : List PX} {x : Ent} (h : geth (hpI i (p :: ps)) k = some (true, x)) : (k = 30000 + i ∧ geth (hpI i [p]) k = some (true, x)) ∨ geth (hpI (i + 1) ps) k = some (true, x) := by
  cases p <;> simp only [hpI, geth] at h ⊢
  · exact .inr h
  · cases hs : 30000 + i == k
    · rw [hs] at h; exact .inr h
    · have : 30000 + i = k := by simpa using hs
      rw [hs] at h; exact .inl ⟨this.symm, h⟩
  · cases hs : 30000 + i == k
    · rw [hs] at h; exact .inr h
    · have : 30000 + i = k := by simpa using hs
      rw [hs] at h; exact .inl ⟨this.symm, h⟩
theorem hpO_split {i k : Nat} {p : PX} {ps : List PX} {x : Ent} (h : geth (hpO i (p :: ps)) k = some (true, x)) : (k = 30000 + i ∧ geth (hpO i [p]) k = some (true, x)) ∨ geth (hpO (i + 1) ps) k = some (true, x) := by
  cases p <;> simp only [hpO, geth] at h ⊢
  · exact .inr h
  · cases hs : 30000 + i == k
    · rw [hs] at h; exact .inr h
    · have : 30000 + i = k := by simpa using hs
      rw [hs] at h; exact .inl ⟨this.symm, h⟩
  · cases hs : 30000 + i == k
    · rw [hs] at h; exact .inr h
    · have : 30000 + i = k := by simpa using hs
      rw [hs] at h; exact .inl ⟨this.symm, h⟩
theorem hpI_later {i k : Nat} {p : PX} {ps : List PX} {x : Bool × Ent} (h : geth (hpI (i + 1) ps) k = some x) : geth (hpI i (p :: ps)) k = some x := by
  have := hpI_ge h
  cases p <;> simp only [hpI, geth]
  · exact h
  · rw [show (30000 + i == k) = false by simp; omega]; exact h
  · rw [show (30000 + i == k) = false by simp; omega]; exact h
theorem hpO_later {i k : Nat} {p : PX} {ps : List PX} {x : Bool × Ent} (h : geth (hpO (i + 1) ps) k = some x) : geth (hpO i (p :: ps)) k = some x := by
  have := hpO_ge h
  cases p <;> simp only [hpO, geth]
  · exact h
  · rw [show (30000 + i == k) = false by simp; omega]; exact h
  · rw [show (30000 + i == k) = false by simp; omega]; exact h

theorem argX_some {h : Hp} {i : Nat} {A : AV} {p : PX} {q : Prop} {L : List (Nat × Nat × Ent)} (hx : argX h i A p = some (q, L)) : (L = [] ∧ hpI i [p] = [] ∧ hpO i [p] = []) ∨ ∃ nm x', L = [(30000 + i, nm, x')] := by
  unfold argX at hx
  split at hx
  · split at hx
    · simp only [Option.some.injEq, Prod.mk.injEq] at hx; exact .inl ⟨hx.2.symm, rfl, rfl⟩
    · cases hx
  · split at hx
    · simp only [Option.some.injEq, Prod.mk.injEq] at hx; exact .inl ⟨hx.2.symm, rfl, rfl⟩
    · split at hx
      · simp only [Option.some.injEq, Prod.mk.injEq] at hx; exact .inl ⟨hx.2.symm, rfl, rfl⟩
      · cases hx
    · cases hx
  · split at hx
    · split at hx
      · simp only [Option.some.injEq, Prod.mk.injEq] at hx; exact .inr ⟨_, _, hx.2.symm⟩
      · cases hx
    · cases hx
  · split at hx
    · split at hx
      · simp only [Option.some.injEq, Prod.mk.injEq] at hx; exact .inr ⟨_, _, hx.2.symm⟩
      · cases hx
    · cases hx
  · cases hx

theorem argsX_spec {h : Hp} : ∀ {as : List AV} {ps : List PX} {i : Nat} {q : Prop} {L : List (Nat × Nat × Ent)}, argsX h i as ps = some (q, L) → q →
    (∀ t ∈ L, 30000 + i ≤ t.1 ∧ (∀ ι, renX L ι t.1 = ι t.2.1) ∧ (∃ x, geth h t.2.1 = some (true, x) ∧ geth (hpI i ps) t.1 = some (true, x)) ∧ geth (hpO i ps) t.1 = some (true, t.2.2)) ∧
    (∀ k x, geth (hpI i ps) k = some (true, x) → ∃ t ∈ L, t.1 = k ∧ geth h t.2.1 = some (true, x)) ∧
    (∀ k x, geth (hpO i ps) k = some (true, x) → ∃ t ∈ L, t.1 = k ∧ t.2.2 = x)
  | [], [], i, q, L, hx, hq => by
    simp only [argsX, Option.some.injEq, Prod.mk.injEq] at hx
    obtain ⟨_, rfl⟩ := hx
    exact ⟨by simp, fun k x h => by simp [hpI, geth] at h, fun k x h => by simp [hpO, geth] at h⟩
  | [], _ :: _, i, q, L, hx, hq => by simp [argsX] at hx
  | _ :: _, [], i, q, L, hx, hq => by simp [argsX] at hx
  | A :: as, p :: ps, i, q, L, hx, hq => by
    simp only [argsX] at hx
    split at hx
    · rename_i q1 L1 q2 L2 e1 e2
      simp only [Option.some.injEq, Prod.mk.injEq] at hx
      obtain ⟨rfl, rfl⟩ := hx
      obtain ⟨a1, a2, a3⟩ := argsX_spec e2 hq.2
      have l1 := argX_live e1 hq.1
      rcases argX_some e1 with ⟨rfl, hI, hO⟩ | ⟨nm, x', rfl⟩
      · simp only [List.nil_append]
        refine ⟨fun t ht => ?_, fun k x hk => ?_, fun k x hk => ?_⟩
        · obtain ⟨b1, b2, ⟨x, b3, b4⟩, b5⟩ := a1 t ht
          exact ⟨by omega, b2, ⟨x, b3, hpI_later b4⟩, hpO_later b5⟩
        · rcases hpI_split hk with ⟨_, h1⟩ | h1
          · rw [hI] at h1; simp [geth] at h1
          · exact a2 k x h1
        · rcases hpO_split hk with ⟨_, h1⟩ | h1
          · rw [hO] at h1; simp [geth] at h1
          · exact a3 k x h1
      · obtain ⟨_, _, ⟨x, c1, c2⟩, c3⟩ := l1 (30000 + i, nm, x') (by simp)
        simp only at c1 c2 c3
        simp only [List.singleton_append]
        refine ⟨fun t ht => ?_, fun k y hk => ?_, fun k y hk => ?_⟩
        · simp only [List.mem_cons] at ht
          rcases ht with rfl | ht
          · exact ⟨Nat.le_refl _, fun ι => by simp [renX], ⟨x, c1, by rw [hpI_cons]; exact geth_append c2⟩, by rw [hpO_cons]; exact geth_append c3⟩
          · obtain ⟨b1, b2, ⟨x, b3, b4⟩, b5⟩ := a1 t ht
            refine ⟨by omega, fun ι => ?_, ⟨x, b3, hpI_later b4⟩, hpO_later b5⟩
            simp only [renX]
            rw [if_neg (by omega)]; exact b2 ι
        · rcases hpI_split hk with ⟨rfl, h1⟩ | h1
          · rw [c2] at h1; simp only [Option.some.injEq, Prod.mk.injEq, true_and] at h1
            exact ⟨(30000 + i, nm, x'), by simp, rfl, by simp only; rw [c1, h1]⟩
          · obtain ⟨t, h2, h3⟩ := a2 k y h1
            exact ⟨t, by simp [h2], h3⟩
        · rcases hpO_split hk with ⟨rfl, h1⟩ | h1
          · rw [c3] at h1; simp only [Option.some.injEq, Prod.mk.injEq, true_and] at h1
            exact ⟨(30000 + i, nm, x'), by simp, rfl, h1⟩
          · obtain ⟨t, h2, h3⟩ := a3 k y h1
            exact ⟨t, by simp [h2], h3⟩
    · cases hx

mutual
theorem toD_repG {okc : Nat → Prop} (S : SimI C σ ι a w) (h1 : ∀ b, okOf C.F σ.h ι w b → okc b) : ∀ (x : AV) (v : Value) (d : D) (p : Prop), (∀ nm y b c, x.refs nm = true → geth σ.h nm = some (true, y) → ι nm = some (b, c) → okc b) →
    RepA (okOf C.F σ.h ι w) ι w x v → toD σ.h x = some (d, p) → p → RepD okc w d v
  | .dat d', v, d, p, h2, h, ht, hp => by
    simp only [toD, Option.some.injEq, Prod.mk.injEq] at ht
    obtain ⟨rfl, _⟩ := ht
    simp only [RepA] at h
    exact RepD.tr h1 (fun _ _ => rfl) _ _ h
  | .vw nm oo m n, v, d, p, h2, h, ht, hp => by
    simp only [toD] at ht
    split at ht
    · rename_i g' T n' l hh
      cases hn : n == n'
      · simp [hn] at ht
      · simp only [hn, cond_true, Option.some.injEq, Prod.mk.injEq] at ht
        simp only [beq_iff_eq] at hn; subst hn
        obtain ⟨rfl, rfl⟩ := ht
        obtain ⟨rfl, hle⟩ := hp
        simp only [RepA] at h
        have hlen : ((l.drop oo).take m).length = m := by simp; omega
        simp only [RepD]
        rcases h with ⟨hi, rfl, rfl, rfl⟩ | ⟨b, c, hi, rfl, hoc⟩
        · exact ⟨by simp, .inl ⟨by simp, _, _, rfl⟩⟩
        · rcases S.ent nm _ hh with ⟨e1, _⟩ | ⟨b', cap, cur, e1, e2, e3, e4, e5, e6, e7⟩
          · rw [hi] at e1; cases e1
          · rw [hi] at e1; simp only [Option.some.injEq, Prod.mk.injEq] at e1
            obtain ⟨rfl, rfl⟩ := e1
            refine ⟨by omega, .inr ⟨b, oo * n, c - oo, _, by rw [hlen], by omega, h2 nm _ b c (by simp [AV.refs]) hh hi, RepDss.tr h1 (fun _ _ => rfl) _ _ _ (RepDss_take m (RepDss_drop oo e7)), ?_⟩⟩
            have hc := cellsAt_take (k := m * n) (cellsAt_drop (k := oo * n) (cellsAt_take (k := l.length * n) (cellsAt_block (o := 0) e3)))
            simpa using hc
    · cases ht
  | .agg l, v, d, p, h2, h, ht, hp => by
    simp only [toD] at ht
    split at ht
    · rename_i ds q hds
      simp only [Option.some.injEq, Prod.mk.injEq] at ht
      obtain ⟨rfl, rfl⟩ := ht
      simp only [RepA] at h
      obtain ⟨vs, rfl, h⟩ := h
      simp only [RepD]
      exact ⟨vs, rfl, toDs_repG S h1 l vs ds q (fun nm y b c hr => h2 nm y b c (by simpa only [AV.refs] using hr)) h hds hp⟩
    · cases ht
  | .rp l, v, d, p, _, h, ht, hp => by
    simp only [toD, Option.some.injEq, Prod.mk.injEq] at ht
    obtain ⟨rfl, _⟩ := ht
    simp only [RepA, RepD] at h ⊢
    obtain ⟨b, o, vs, e, hb, h2, h3⟩ := h
    exact ⟨b, o, vs, e, h1 b hb, RepDs.tr h1 (fun _ _ => rfl) _ _ h2, h3⟩
  | .pt nm oo, v, d, p, hr, h, ht, hp => by
    simp only [toD] at ht
    split at ht
    · rename_i g' T c hh
      split at ht
      · rename_i ds hds
        simp only [Option.some.injEq, Prod.mk.injEq] at ht
        obtain ⟨rfl, rfl⟩ := ht
        subst hp
        simp only [RepA, RepD] at h ⊢
        obtain ⟨b, cc, hi, rfl⟩ := h
        obtain ⟨b', cap, cur, e1, h2, h3, h4⟩ := S.ent nm _ hh
        rw [hi] at e1; simp only [Option.some.injEq, Prod.mk.injEq] at e1
        obtain ⟨rfl, rfl⟩ := e1
        have h5 := RepAs_drop oo h4
        rw [allDat_eq hds] at h5
        exact ⟨b, oo, _, rfl, hr nm _ b cc (by simp [AV.refs]) hh hi, RepDs.tr h1 (fun _ _ => rfl) _ _ (RepAs_dat.1 h5), cellsAt_block h3⟩
      · cases ht
    · cases ht
  | .un, v, d, p, _, h, ht, hp | .tup _, v, d, p, _, h, ht, hp | .ep .., v, d, p, _, h, ht, hp | .gd .., v, d, p, _, h, ht, hp | .pin .., v, d, p, _, h, ht, hp | .cl .., v, d, p, _, h, ht, hp => by simp [toD] at ht
theorem toDs_repG {okc : Nat → Prop} (S : SimI C σ ι a w) (h1 : ∀ b, okOf C.F σ.h ι w b → okc b) : ∀ (l : List AV) (vs : List Value) (ds : List D) (p : Prop), (∀ nm y b c, AV.refsL nm l = true → geth σ.h nm = some (true, y) → ι nm = some (b, c) → okc b) →
    RepAs (okOf C.F σ.h ι w) ι w true l vs → toDs σ.h l = some (ds, p) → p → RepDs okc w ds vs
  | [], vs, ds, p, h2, h, ht, hp => by
    simp only [toDs, Option.some.injEq, Prod.mk.injEq] at ht
    obtain ⟨rfl, _⟩ := ht
    simpa only [RepAs, RepDs] using h
  | x :: l, vs, ds, p, h2, h, ht, hp => by
    simp only [toDs] at ht
    split at ht
    · rename_i d p1 ds' p2 e1 e2
      simp only [Option.some.injEq, Prod.mk.injEq] at ht
      obtain ⟨rfl, rfl⟩ := ht
      simp only [RepAs] at h
      obtain ⟨v, vs', rfl, h3, h4, h5⟩ := h
      simp only [RepDs]
      exact ⟨v, vs', rfl, toD_repG S h1 x v d p1 (fun nm y b c hr => h2 nm y b c (by simp [AV.refsL, hr])) h3 e1 hp.1, by simpa using h4, toDs_repG S h1 l vs' ds' p2 (fun nm y b c hr => h2 nm y b c (by simp [AV.refsL, hr])) h5 e2 hp.2⟩
    · cases ht
end

theorem argsX_rep {okc : Nat → Prop} {ιc : Nat → Option (Nat × Nat)} {nms : List Nat} (S : SimI C σ ι a w) (h1 : ∀ b, okOf C.F σ.h ι w b → okc b)
    (h2 : ∀ nm y b c, nm ∉ nms → geth σ.h nm = some (true, y) → ι nm = some (b, c) → okc b) :
    ∀ {as : List AV} {ps : List PX} {i : Nat} {q : Prop} {L : List (Nat × Nat × Ent)} {vs : List Value}, argsX σ.h i as ps = some (q, L) → q → roX nms as ps = true →
      (∀ t ∈ L, ιc t.1 = ι t.2.1) → vs.length = as.length → (∀ (k : Nat) (A : AV) (v : Value), as[k]? = some A → vs[k]? = some v → RepA (okOf C.F σ.h ι w) ι w A v) → RepX okc ιc w i ps vs
  | [], [], i, q, L, vs, hx, hq, hro, hL, hl, hr => by simp only [RepX]; simpa using hl
  | [], _ :: _, i, q, L, vs, hx, _, _, _, _, _ => by simp [argsX] at hx
  | _ :: _, [], i, q, L, vs, hx, _, _, _, _, _ => by simp [argsX] at hx
  | A :: as, p :: ps, i, q, L, [], hx, hq, hro, hL, hl, hr => by simp at hl
  | A :: as, p :: ps, i, q, L, v :: vs, hx, hq, hro, hL, hl, hr => by
    simp only [argsX] at hx
    split at hx
    · rename_i q1 L1 q2 L2 e1 e2
      simp only [Option.some.injEq, Prod.mk.injEq] at hx
      obtain ⟨rfl, rfl⟩ := hx
      have hro' : roX nms as ps = true := by
        cases p <;> simp only [roX, Bool.and_eq_true] at hro
        · exact hro.2
        · exact hro
        · exact hro
      have ih := argsX_rep S h1 h2 e2 hq.2 hro' (fun t ht => hL t (by simp [ht])) (by simpa using hl) (fun k B u hB hu => hr (k + 1) B u (by simpa using hB) (by simpa using hu))
      have hA := hr 0 A v rfl rfl
      simp only [RepX]
      refine ⟨v, vs, rfl, ?_, ih⟩
      have q1' := hq.1
      unfold argX at e1
      split at e1
      · rename_i d
        split at e1
        · rename_i d' pp ht
          simp only [Option.some.injEq, Prod.mk.injEq] at e1
          obtain ⟨rfl, _⟩ := e1
          obtain ⟨rfl, hpp⟩ := q1'
          simp only [PX.av, RepA]
          simp only [roX, Bool.and_eq_true, List.all_eq_true, Bool.not_eq_true'] at hro
          exact toD_repG S h1 A v _ pp (fun nm y b c hrf hy hi => h2 nm y b c (fun hm => by have := hro.1 nm hm; rw [hrf] at this; cases this) hy hi) hA ht hpp
        · cases e1
      · rename_i l
        split at e1
        · simp only [Option.some.injEq, Prod.mk.injEq] at e1
          obtain ⟨rfl, _⟩ := e1
          subst q1'
          simp only [PX.av]
          simp only [RepA] at hA ⊢
          obtain ⟨b, o, vs', e, hb, k1, k2⟩ := hA
          exact ⟨b, o, vs', e, h1 b hb, RepDs.tr h1 (fun _ _ => rfl) _ _ k1, k2⟩
        · rename_i nm oo
          split at e1
          · rename_i g' T c hg
            simp only [Option.some.injEq, Prod.mk.injEq] at e1
            obtain ⟨rfl, _⟩ := e1
            obtain ⟨rfl, hc⟩ := q1'
            simp only [PX.av]
            simp only [RepA] at hA ⊢
            obtain ⟨b, cc, hi, rfl⟩ := hA
            obtain ⟨b', cap, cur, k1, k2, k3, k4⟩ := S.ent nm _ hg
            rw [hi] at k1; simp only [Option.some.injEq, Prod.mk.injEq] at k1
            obtain ⟨rfl, rfl⟩ := k1
            have hok : okc b := by
              simp only [roX, Bool.and_eq_true, List.all_eq_true, Bool.not_eq_true'] at hro
              exact h2 nm _ b cc (fun hm => by have := hro.1 nm hm; simp [AV.refs] at this) hg hi
            have k5 := RepAs_drop oo k4
            rw [hc] at k5
            exact ⟨b, oo, _, rfl, hok, RepDs.tr h1 (fun _ _ => rfl) _ _ (RepAs_dat.1 k5), cellsAt_block k3⟩
          · cases e1
        · cases e1
      · split at e1
        · rename_i nm o' m' n'
          split at e1
          · simp only [Option.some.injEq, Prod.mk.injEq] at e1
            obtain ⟨rfl, rfl⟩ := e1
            obtain ⟨_, _, rfl, rfl, rfl⟩ := q1'
            have := hL _ (List.mem_append_left _ (List.mem_singleton.2 rfl))
            simp only at this
            simp only [PX.av]
            simp only [RepA, this] at hA ⊢
            exact hA
          · cases e1
        · cases e1
      · split at e1
        · rename_i nm o'
          split at e1
          · simp only [Option.some.injEq, Prod.mk.injEq] at e1
            obtain ⟨rfl, rfl⟩ := e1
            obtain ⟨_, _, _, rfl⟩ := q1'
            have := hL _ (List.mem_append_left _ (List.mem_singleton.2 rfl))
            simp only at this
            simp only [PX.av]
            simp only [RepA, this] at hA ⊢
            exact hA
          · cases e1
        · cases e1
      · cases e1
    · cases hx

theorem hpX_get {L : List (Nat × Nat × Ent)} {h : Hp} {nm : Nat} {y : Ent} (hg : geth (hpX L ++ h) nm = some (true, y)) : (∃ t ∈ L, t.2.1 = nm ∧ t.2.2 = y) ∨ ((∀ t ∈ L, t.2.1 ≠ nm) ∧ geth h nm = some (true, y)) := by
  induction L with
  | nil => exact .inr ⟨by simp, by simpa [hpX] using hg⟩
  | cons s l ih =>
    simp only [hpX, List.map_cons, List.cons_append, geth] at hg
    cases hs : s.2.1 == nm
    · rw [hs, cond_false] at hg
      rcases ih hg with ⟨t, h1, h2⟩ | ⟨h1, h2⟩
      · exact .inl ⟨t, by simp [h1], h2⟩
      · refine .inr ⟨fun t ht => ?_, h2⟩
        simp only [List.mem_cons] at ht
        rcases ht with rfl | ht
        · simpa using hs
        · exact h1 t ht
    · rw [hs, cond_true] at hg
      simp only [Option.some.injEq, Prod.mk.injEq, true_and] at hg
      exact .inl ⟨s, by simp, by simpa using hs, hg⟩

theorem noDup_inj : ∀ {L : List (Nat × Nat × Ent)}, noDup (nmsX L) = true → ∀ {s t : Nat × Nat × Ent}, s ∈ L → t ∈ L → s.2.1 = t.2.1 → s = t
  | [], _, s, t, hs, _, _ => by simp at hs
  | x :: L, h, s, t, hs, ht, e => by
    simp only [nmsX, List.map_cons, noDup, Bool.and_eq_true, Bool.not_eq_true'] at h
    have hx : ∀ u ∈ L, u.2.1 ≠ x.2.1 := by
      intro u hu he
      have : (List.map (fun t : Nat × Nat × Ent => t.2.1) L).contains x.2.1 = true := by
        rw [List.contains_eq_mem, decide_eq_true_eq, List.mem_map]; exact ⟨u, hu, he⟩
      rw [h.1] at this; cases this
    simp only [List.mem_cons] at hs ht
    rcases hs with rfl | hs
    · rcases ht with rfl | ht
      · rfl
      · exact absurd e.symm (hx t ht)
    · rcases ht with rfl | ht
      · exact absurd e (hx s hs)
      · exact noDup_inj h.2 hs ht e

theorem pkl_rep (S : SimI C σ ι a w) (hg : g = true) (args : List Operand) (hp : pkl g (args.map (opnd σ.e))) : ∀ (k : Nat) (A : AV) (v : Value), ((args.map (opnd σ.e)).map sp)[k]? = some A → (args.map a.eval)[k]? = some v → RepA (okOf C.F σ.h ι w) ι w A v := by
  intro k A v hA hv
  simp only [List.getElem?_map, Option.map_eq_some_iff] at hA hv
  obtain ⟨_, ⟨x, hx, rfl⟩, rfl⟩ := hA
  obtain ⟨y, hy, rfl⟩ := hv
  rw [hx] at hy; simp only [Option.some.injEq] at hy; subst hy
  have : pk g (opnd σ.e x) := by
    clear S hg
    induction args generalizing k with
    | nil => simp at hx
    | cons z l ih =>
      simp only [List.map_cons, pkl] at hp
      cases k with
      | zero => simp at hx; subst hx; exact hp.1
      | succ k => exact ih hp.2 k (by simpa using hx)
  exact S.sopnd hg x this

theorem run_enter {f : FuncId} {args : Array Operand} {ts : Array TypeId} (ho : o.op = .call ⟨.value (.func f), args, ts⟩) (hf : isFn C.P f = true) (a : Act) (w : World) : (execOp a.eval o).run C.P w = .ok (.enter f (args.map a.eval)) w := by
  unfold isFn at hf
  cases hfn : C.P.funcs[f]? with
  | none => simp [hfn] at hf
  | some fn =>
    simp only [hfn, Bool.and_eq_true, Bool.not_eq_true'] at hf
    obtain ⟨h1, h2⟩ := hf
    have h1' : ¬ fn.name = "runtime.NumGoroutine" := by simpa using h1
    have h3' : ¬ fn.body = none := by intro hb; simp [hb] at h2
    simp [execOp, ho, resolve, Act.eval, Deferred.ofValue, invoke, callFunc, hfn, h1', h3']

theorem RepAs_dats {ok ok' : Nat → Prop} {ι ι' : Nat → Option (Nat × Nat)} {w : World} (hok : ∀ b, ok b → ok' b) : ∀ {c : List AV} {vs : List Value}, AV.dats c = true → RepAs ok ι w true c vs → RepAs ok' ι' w true c vs
  | [], vs, _, h => by simpa only [RepAs] using h
  | a :: l, vs, hp, h => by
    simp only [RepAs] at h ⊢
    obtain ⟨v, vs', e, h1, h2, h3⟩ := h
    cases a with
    | dat d =>
      simp only [AV.dats] at hp
      simp only [RepA] at h1
      exact ⟨v, vs', e, by simp only [RepA]; exact RepD.tr hok (fun _ _ => rfl) _ _ h1, h2, RepAs_dats hok hp h3⟩
    | _ => simp [AV.dats] at hp
theorem hpI_dats : ∀ {l : List PX} {i k T : Nat} {c : List AV}, PX.plains l = true → geth (hpI i l) k = some (true, .box T c) → AV.dats c = true
  | [], i, k, T, c, _, h => by simp [hpI, geth] at h
  | p :: l, i, k, T, c, hp, h => by
    simp only [PX.plains, Bool.and_eq_true] at hp
    rcases hpI_split h with ⟨_, h1⟩ | h1
    · cases p <;> simp only [hpI, geth] at h1
      · cases h1
      · cases hs : 30000 + i == k
        · rw [hs] at h1; cases h1
        · rw [hs, cond_true] at h1
          simp only [Option.some.injEq, Prod.mk.injEq, true_and] at h1
          subst h1; simp [PX.plain, Ent.isArr] at hp
      · cases hs : 30000 + i == k
        · rw [hs] at h1; cases h1
        · rw [hs, cond_true] at h1
          simp only [Option.some.injEq, Prod.mk.injEq, Ent.box.injEq, true_and] at h1
          obtain ⟨rfl, rfl⟩ := h1
          simp only [PX.plain, Bool.and_eq_true] at hp; exact hp.1.1
    · exact hpI_dats hp.2 h1

theorem snd_callX {Δ : FuncId → List AV → Hp → Option (List PX × RV)} {f : Nat} {args : Array Operand} {ts : Array TypeId} {out : Out} (ho : o.op = .call ⟨.value (.func f), args, ts⟩)
    (h : vCallX C.P Δ f g σ (args.toList.map (opnd σ.e)) = some out) : SndW C o g σ out := by
  unfold vCallX at h
  split at h
  · cases h
  · rename_i ps r hΔ
    split at h
    · cases h
    · rename_i p L hL
      cases hc : (noDup (nmsX L) && roX (nmsX L) ((args.toList.map (opnd σ.e)).map sp) ps && r.flat && isFn C.P f)
      · rw [hc] at h; cases h
      · simp only [hc, cond_true, Option.some.injEq] at h; subst h
        simp only [Bool.and_eq_true] at hc
        obtain ⟨⟨⟨c1, c2⟩, c3⟩, c4⟩ := hc
        intro ι a w S hg hs K Q hK
        obtain ⟨s1, s2, s3, s4, s5⟩ := hs
        obtain ⟨a1, a2, a3⟩ := argsX_spec hL s2
        have hok : ∀ b, okOf C.F σ.h ι w b → okOf (fun _ => False) (hpI 0 ps) (renX L ι) w b := by
          intro b hb
          refine ⟨hb.1, fun k x c hx hi => ?_, not_false⟩
          obtain ⟨t, t1, rfl, t3⟩ := a2 k x hx
          rw [(a1 t t1).2.1] at hi
          exact hb.2.1 _ x c t3 hi
        have hok2 : ∀ nm y b c, nm ∉ nmsX L → geth σ.h nm = some (true, y) → ι nm = some (b, c) → okOf (fun _ => False) (hpI 0 ps) (renX L ι) w b := by
          intro nm y b c hn hy hi
          refine ⟨S.live_lt hy hi, fun k x c' hx hi' => ?_, not_false⟩
          obtain ⟨t, t1, rfl, t3⟩ := a2 k x hx
          rw [(a1 t t1).2.1] at hi'
          refine S.inj nm t.2.1 y x b c c' hy t3 (fun e => hn ?_) hi hi'
          rw [e]; exact List.mem_map.2 ⟨t, t1, rfl⟩
        unfold Oper.wp
        rw [run_enter ho c4 a w]
        have hargs := argsX_rep (okc := okOf (fun _ => False) (hpI 0 ps) (renX L ι) w) (ιc := renX L ι) (vs := (args.map a.eval).toList) S hok hok2 hL s2 c2 (fun t ht => (a1 t ht).2.1 ι) (by simp) (by
          have := pkl_rep S hg args.toList s1
          simpa using this)
        have hcall := s5 w (args.map a.eval) (renX L ι) (fun k x hx => ?_) (fun k k' x x' b c c' hx hx' hne hi hi' => ?_) hargs
        · refine hcall.mono ?_
          rintro e w' ⟨v, rfl, ⟨w1, w2, w3, w4⟩, hsame, hents, hr⟩
          have hlive : ∀ nm y, geth (hpX L ++ σ.h) nm = some (true, y) → ∃ z, geth σ.h nm = some (true, z) := by
            intro nm y hy
            rcases hpX_get hy with ⟨t, t1, rfl, t3⟩ | ⟨_, t2⟩
            · obtain ⟨_, _, ⟨x, x1, _⟩, _⟩ := a1 t t1
              exact ⟨x, x1⟩
            · exact ⟨y, t2⟩
          have hok' : ∀ b, okOf C.F σ.h ι w b → okOf C.F (hpX L ++ σ.h) ι w' b := by
            intro b hb
            refine ⟨Nat.lt_of_lt_of_le hb.1 w4, fun nm y c hy => ?_, hb.2.2⟩
            obtain ⟨z, hz⟩ := hlive nm y hy
            exact hb.2.1 nm z c hz
          have hw : ∀ b, okOf C.F σ.h ι w b → w'.heap[b]? = w.heap[b]? := fun b hb => hsame b (hok b hb)
          have S' : SimI C ⟨σ.e, hpX L ++ σ.h⟩ ι a w' := by
            refine ⟨fun s => RepA.tr hok' hw _ _ (fun _ _ => rfl) (S.env s), fun nm y hy => ?_, fun nm nm' y y' b c c' hy hy' hne hi => ?_, w1.trans S.os, w2.trans S.tape, w3.trans S.output, Nat.le_trans S.size w4, fun k hk hX => ?_, S.def0, S.tms⟩
            · rcases hpX_get hy with ⟨t, t1, rfl, rfl⟩ | ⟨t1, t2⟩
              · obtain ⟨_, b2, ⟨x, x1, _⟩, x3⟩ := a1 t t1
                have E := hents t.1 t.2.2 x3
                have hpl : t.2.2.plain = true := by
                  have : ∀ {l : List PX} {i k : Nat} {x : Ent}, PX.plains l = true → geth (hpO i l) k = some (true, x) → x.plain = true := by
                    intro l
                    induction l with
                    | nil => intro i k x _ h; simp [hpO, geth] at h
                    | cons q l ih =>
                      intro i k x hp hh
                      simp only [PX.plains, Bool.and_eq_true] at hp
                      rcases hpO_split hh with ⟨_, h1⟩ | h1
                      · cases q <;> simp only [hpO, geth] at h1
                        · cases h1
                        all_goals
                          cases hs : 30000 + i == k
                          · rw [hs] at h1; cases h1
                          · rw [hs, cond_true] at h1
                            simp only [Option.some.injEq, Prod.mk.injEq, true_and] at h1
                            subst h1; have := hp.1; simp only [PX.plain, Bool.and_eq_true] at this; exact this.2
                      · exact ih hp.2 h1
                  exact this s3 x3
                refine E.to hpl (fun b c hi => ?_) (b2 ι).symm
                rw [b2] at hi
                have E0 := S.ent t.2.1 x x1
                cases x with
                | box T cc =>
                  obtain ⟨b', cap, cur, k1, k2, _⟩ := E0
                  rw [hi] at k1; simp only [Option.some.injEq, Prod.mk.injEq] at k1
                  rw [k1.1]; exact k2.1
                | arr T n l =>
                  rcases E0 with ⟨k1, _⟩ | ⟨b', cap, cur, k1, k2, _⟩
                  · rw [hi] at k1; cases k1
                  · rw [hi] at k1; simp only [Option.some.injEq, Prod.mk.injEq] at k1
                    rw [k1.1]; exact k2
              · refine (S.ent nm y t2).tr hok' hw (fun b c hi => hsame b (hok2 nm y b c (fun hm => ?_) t2 hi)) rfl (fun _ _ => rfl)
                obtain ⟨t, ht, he⟩ := List.mem_map.1 hm
                exact t1 t ht he
            · obtain ⟨z, hz⟩ := hlive nm y hy
              obtain ⟨z', hz'⟩ := hlive nm' y' hy'
              exact S.inj nm nm' z z' b c c' hz hz' hne hi
            · rw [hsame k, S.old k hk hX]
              refine ⟨Nat.lt_of_lt_of_le hk S.size, fun nm x c hx hi => ?_, not_false⟩
              obtain ⟨t, t1, rfl, t3⟩ := a2 nm x hx
              rw [(a1 t t1).2.1] at hi
              rcases own_of_live S t3 hi with h | h
              · omega
              · exact hX h
          refine hK v w' ι trivial S' ?_
          exact still_rep r v [] (ok := fun _ => False) (fun b hb => hb.elim) (by simp) (RepR_plain r v [] s4 hr)
        · obtain ⟨t, t1, rfl, t3⟩ := a2 k x hx
          have hr := (a1 t t1).2.1 ι
          have E := S.ent t.2.1 x t3
          cases x with
          | box T cc =>
            obtain ⟨b, cap, cur, k1, k2, k3, k4⟩ := E
            refine ⟨b, cap, cur, hr.trans k1, ⟨(Array.getElem?_eq_some_iff.1 k3).1, k2.2⟩, k3, ?_⟩
            have hd : AV.dats cc = true := hpI_dats s3 hx
            exact RepAs_dats hok hd k4
          | arr T n l =>
            rcases E with ⟨k1, k2⟩ | ⟨b, cap, cur, k1, k2, k3, k4, k5, k6, k7⟩
            · exact .inl ⟨hr.trans k1, k2⟩
            · exact .inr ⟨b, cap, cur, hr.trans k1, (Array.getElem?_eq_some_iff.1 k3).1, k3, k4, k5, k6, RepDss.tr hok (fun _ _ => rfl) _ _ _ k7⟩
        · obtain ⟨t, t1, rfl, t3⟩ := a2 k x hx
          obtain ⟨t', t1', rfl, t3'⟩ := a2 k' x' hx'
          rw [(a1 t t1).2.1] at hi
          rw [(a1 t' t1').2.1] at hi'
          exact S.inj t.2.1 t'.2.1 x x' b c c' t3 t3' (fun e => hne (by rw [noDup_inj c1 t1 t1' e])) hi hi'

theorem RepDss_spl {ok : Nat → Prop} {w : World} {n k : Nat} {l xs : List (List D)} {vs ws : List Value} (h : RepDss ok w n l vs) (hx : RepDss ok w n xs ws) : RepDss ok w n (spl l k xs) (spl vs (k * n) ws) := by
  have hl := RepDss_length hx
  unfold spl
  rw [hl, ← Nat.add_mul]
  exact RepDss_append (RepDss_append (RepDss_take k h) hx) (RepDss_drop (k + xs.length) h)
theorem spl_take {α : Type} (cl vs : List α) (k L : Nat) (h : k + vs.length ≤ L) : (spl cl k vs).take L = spl (cl.take L) k vs := by
  unfold spl
  by_cases hk : k ≤ cl.length
  · rw [List.take_append, List.take_of_length_le (by simp; omega), List.take_take, Nat.min_eq_left (by omega), List.drop_take]
    congr 2; simp; omega
  · have e1 : cl.drop (k + vs.length) = [] := List.drop_of_length_le (by omega)
    have e2 : (cl.take L).drop (k + vs.length) = [] := List.drop_of_length_le (by simp; omega)
    rw [e1, e2, List.append_nil, List.append_nil, List.take_take, Nat.min_eq_left (by omega), List.take_of_length_le (by simp; omega)]
theorem spl_length {α : Type} (l xs : List α) (k : Nat) (h : k + xs.length ≤ l.length) : (spl l k xs).length = l.length := by
  simp [spl]; omega
theorem SimI.row (S : SimI C σ ι a w) {nm b c T n k : Nat} {l xs : List (List D)} {ws : List Value} (hh : geth σ.h nm = some (true, .arr T n l)) (hi : ι nm = some (b, c)) (hk : k + xs.length ≤ l.length) (hx : RepDss (okOf C.F σ.h ι w) w n xs ws) :
    ∃ w', (storeCells ⟨b, k * n, none⟩ ws).run C.P w = .ok () w' ∧ SimI C ⟨σ.e, (nm, some (true, .arr T n (spl l k xs))) :: σ.h⟩ ι a w' := by
  rcases S.ent nm _ hh with ⟨e1, _⟩ | ⟨b', cap, cur, e1, e2, e3, e4, e5, e6, e7⟩
  · rw [hi] at e1; cases e1
  · rw [hi] at e1; simp only [Option.some.injEq, Prod.mk.injEq] at e1
    obtain ⟨rfl, rfl⟩ := e1
    have lw := RepDss_length hx
    have h1 : k * n + xs.length * n ≤ l.length * n := by rw [← Nat.add_mul]; exact Nat.mul_le_mul_right n hk
    have h2 : l.length * n ≤ cur.size := by rw [e4]; exact Nat.mul_le_mul_right n e5
    have hst := run_storeCells_at C.P b (k * n) T ws 0 cur w e3 (by simp; omega) (RepDss_one hx)
    simp only [Nat.add_zero] at hst
    refine ⟨_, hst, S.write (w' := w.setRow b (spl cur.toList (k * n) ws).toArray) hh hi (setRow_heap w b cur _ T (0, 0) e3) rfl rfl rfl (by simp) (fun k hk => setRow_other w b k _ hk) (fun hok hw => ?_)⟩
    refine .inr ⟨b, c, _, hi, e2, setRow_heap w b cur _ T (0, 0) e3, ?_, by rw [spl_length _ _ _ hk]; exact e5, ⟨e6.1, by rw [spl_length _ _ _ hk]; exact e6.2⟩, ?_⟩
    · simp only [List.size_toArray]
      rw [spl_length _ _ _ (by simp; omega)]; simpa using e4
    · rw [spl_length _ _ _ hk]
      simp only [List.toList_toArray]
      rw [spl_take _ _ _ _ (by omega)]
      exact RepDss_spl (RepDss.tr hok hw n l _ e7) (RepDss.tr hok hw n xs _ hx)

def vClear (P : Program) (T : Nat) (g : Bool) (σ : St) (x : AV) : Option Out :=
  match elOf P T, sp x with
  | some e, .vw nm o m n => match geth σ.h nm, zC P e with
    | some (g', .arr T' n' l), some z => bif szOf P e == n && n == n' && z.length == n && decide (0 < n) && (P.info? e).isSome then
        some ⟨.un, [(nm, some (true, .arr T' n' (spl l o (List.replicate m z))))], pk g x ∧ g' = true ∧ o + m ≤ l.length, True⟩ else none
    | _, _ => none
  | _, _ => none

theorem snd_clear {T : Nat} {x : Operand} {out : Out} (ho : o.op = .call ⟨.builtin .clear, #[x], #[T]⟩) (h : vClear C.P T g σ (opnd σ.e x) = some out) : Snd C o g σ out := by
  unfold vClear at h
  split at h
  · rename_i e nm oo m n he hx
    split at h
    · rename_i g' T' n' l z hh hz
      cases hc : (szOf C.P e == n && n == n' && z.length == n && decide (0 < n) && (C.P.info? e).isSome)
      · rw [hc] at h; cases h
      · simp only [hc, cond_true, Option.some.injEq] at h; subst h
        simp only [Bool.and_eq_true, beq_iff_eq, decide_eq_true_eq] at hc
        obtain ⟨⟨⟨⟨c1, rfl⟩, c3⟩, c4⟩, c5⟩ := hc
        intro ι a w S hg hs
        obtain ⟨s1, rfl, s3⟩ := hs
        have ex := S.sopnd hg x s1
        rw [hx] at ex
        simp only [RepA] at ex
        obtain ⟨cs, hrun⟩ := run_call_builtin (P := C.P) (w := w) (ρ := a.eval) ho
        obtain ⟨i, u, h1, h2, h3⟩ := zC_rep (ok := okOf C.F σ.h ι w) (w := w) hz
        have hzs : u.cells.size = n := by have := RepDs_length h3; simp at this; omega
        have hzv : (zeroValue e).run C.P w = .ok u w := by simp [zeroValue, typeInfo, h1, h2]
        have hu := run_underlying (w := w) (elOf_some he)
        rcases ex with ⟨hi, ev, rfl, rfl⟩ | ⟨b, c, hi, ev, hoc⟩
        · refine ⟨.value (.tuple #[]), w, .tuple #[], ?_, .inl rfl, trivial, ι, ?_, by simp only [RepA]⟩
          · rw [hrun]
            simp [builtin, Builtin.clear_, ev, hu]
          · have hl0 : spl l 0 (List.replicate 0 z) = l := by simp [spl]
            rw [hl0]
            exact S.hcongr (h := σ.h) (e := σ.e) (fun k => by
              simp only [List.cons_append, List.nil_append, geth]
              cases hk : nm == k
              · rfl
              · have : nm = k := by simpa using hk
                subst this; simp [hh])
        · have hrep := RepDss_replicate h3 m
          have hzl : u.cells.toList.length = n := by simpa using hzs
          rw [hzl] at hrep
          have hfl : (Builtin.zeroCells u.cells m).toList = (List.replicate m u.cells.toList).flatten := by
            have := madeCells_flat u.cells m
            rw [← this]; rfl
          rw [← hfl] at hrep
          obtain ⟨w', hst, S'⟩ := S.row hh hi (k := oo) (by simpa using s3) hrep
          by_cases hm : m = 0
          · subst hm
            refine ⟨.value (.tuple #[]), w, .tuple #[], ?_, .inl rfl, trivial, ι, ?_, by simp only [RepA]⟩
            · rw [hrun]
              simp [builtin, Builtin.clear_, ev, hu]
            · have hl0 : spl l oo (List.replicate 0 z) = l := by simp [spl]
              rw [hl0]
              exact S.hcongr (h := σ.h) (e := σ.e) (fun k => by
                simp only [List.cons_append, List.nil_append, geth]
                cases hk : nm == k
                · rfl
                · have : nm = k := by simpa using hk
                  subst this; simp [hh])
          · refine ⟨.value (.tuple #[]), w', .tuple #[], ?_, .inl rfl, trivial, ι, S', by simp only [RepA]⟩
            rw [hrun]
            obtain ⟨m, rfl⟩ := Nat.exists_eq_succ_of_ne_zero hm
            simp [builtin, Builtin.clear_, ev, hu, hzv, hst]
    · cases h
  · cases h

def vCopy (P : Program) (T : Nat) (g : Bool) (σ : St) (x y : AV) : Option Out :=
  match elOf P T, sp x with
  | some e, .vw nm o m n => match geth σ.h nm with
    | some (g', .arr T' n' l) => match srcOf n g σ.h y with
      | some (xs, s2) => bif szOf P e == n && n == n' && (P.info? e).isSome then
          some ⟨.dat (.i ((min xs.length m : Nat) : Int)), [(nm, some (true, .arr T' n' (spl l o (xs.take m))))], pk g x ∧ g' = true ∧ o + m ≤ l.length ∧ s2, True⟩ else none
      | none => none
    | _ => none
  | _, _ => none

theorem snd_copy {T T2 : Nat} {x y : Operand} {out : Out} (ho : o.op = .call ⟨.builtin .copy, #[x, y], #[T, T2]⟩) (h : vCopy C.P T g σ (opnd σ.e x) (opnd σ.e y) = some out) : Snd C o g σ out := by
  unfold vCopy at h
  split at h
  · rename_i e nm oo m n he hx
    split at h
    · rename_i g' T' n' l hh
      split at h
      · rename_i xs s2 hsrc
        cases hc : (szOf C.P e == n && n == n' && (C.P.info? e).isSome)
        · rw [hc] at h; cases h
        · simp only [hc, cond_true, Option.some.injEq] at h; subst h
          simp only [Bool.and_eq_true, beq_iff_eq] at hc
          obtain ⟨⟨c1, rfl⟩, c3⟩ := hc
          intro ι a w S hg hs
          obtain ⟨s1, rfl, s3, s4⟩ := hs
          have ex := S.sopnd hg x s1
          rw [hx] at ex
          simp only [RepA] at ex
          obtain ⟨va, cc, news, ey, hnews, hnil, hcell⟩ := src_rep S hg hsrc s4
          obtain ⟨cs, hrun⟩ := run_call_builtin (P := C.P) (w := w) (ρ := a.eval) ho
          have hu := run_underlying (w := w) (elOf_some he)
          obtain ⟨i, hinfo⟩ := Option.isSome_iff_exists.1 c3
          have his : i.size = n := by rw [← c1]; simp [szOf, hinfo]
          have htk := RepDss_take m hnews
          have hlt : (xs.take m).length = min xs.length m := by simp [Nat.min_comm]
          have hload : (Builtin.firstCells n (Nat.min xs.length m) (.slice va xs.length cc)).run C.P w = .ok (news.take (m * n)).toArray w := by
            cases va with
            | none =>
              have := hnil rfl
              subst this
              have hn0 : news = [] := by simpa [RepDss] using hnews
              simp [Builtin.firstCells, hn0]
            | some p =>
              have hl := run_loadCells_list (P := C.P) w p (news.take (m * n)) (fun j v hv => by
                have hv' : news[j]? = some v := by
                  rw [List.getElem?_take] at hv
                  split at hv
                  · exact hv
                  · cases hv
                exact hcell p rfl j v hv')
              have hlen : (news.take (m * n)).length = Nat.min xs.length m * n := by
                have := RepDss_length htk
                rw [hlt] at this
                exact this
              rw [hlen] at hl
              simpa [Builtin.firstCells] using hl
          rcases ex with ⟨hi, ev, rfl, rfl⟩ | ⟨b, c, hi, ev, hoc⟩
          · refine ⟨.value (goInt 0), w, goInt 0, ?_, .inl rfl, trivial, ι, ?_, ?_⟩
            · rw [hrun]
              have hl0 : (Builtin.firstCells n 0 (.slice va xs.length cc)).run C.P w = .ok #[] w := by
                have := hload
                simpa using this
              simp [builtin, Builtin.copy_, ev, ey, hu, Builtin.lenOf, sizeOf, typeInfo, hinfo, his, hl0]
            · have hl0 : spl l 0 (xs.take 0) = l := by simp [spl]
              rw [hl0]
              exact S.hcongr (h := σ.h) (e := σ.e) (fun k => by
                simp only [List.cons_append, List.nil_append, geth]
                cases hk : nm == k
                · rfl
                · have : nm = k := by simpa using hk
                  subst this; simp [hh])
            · simp [RepA, RepD, goInt]
          · obtain ⟨w', hst, S'⟩ := S.row hh hi (k := oo) (by rw [hlt]; omega) htk
            refine ⟨.value (goInt ((xs.length.min m : Nat) : Int)), w', goInt ((xs.length.min m : Nat) : Int), ?_, .inl rfl, trivial, ι, S', by simp only [RepA, RepD, goInt]⟩
            rw [hrun]
            simp [builtin, Builtin.copy_, ev, ey, hu, Builtin.lenOf, sizeOf, typeInfo, hinfo, his, hload, hst]
      · cases h
    · cases h
  · cases h

def outY (P : Program) (Δ : FuncId → List AV → Hp → Option (List PX × RV)) (o : Oper) (g : Bool) (σ : St) : Option Out :=
  match o.op with
  | .call ⟨.value (.func f), as, _⟩ => vCallX P Δ f g σ (as.toList.map (opnd σ.e))
  | .call ⟨.builtin .clear, as, ts⟩ => match as.toList, ts.toList with
    | [x], [T] => vClear P T g σ (opnd σ.e x)
    | _, _ => none
  | .call ⟨.builtin .copy, as, ts⟩ => match as.toList, ts.toList with
    | [x, y], [T, _] => vCopy P T g σ (opnd σ.e x) (opnd σ.e y)
    | _, _ => none
  | _ => none

theorem outY_snd {Δ : FuncId → List AV → Hp → Option (List PX × RV)} {out : Out} (h : outY C.P Δ o g σ = some out) : SndW C o g σ out := by
  unfold outY at h
  split at h
  · rename_i ho; exact snd_callX ho h
  · rename_i as ts ho
    split at h
    · rename_i x T h1 h2
      have e1 : as = #[x] := arr_one h1
      have e2 : ts = #[T] := arr_one h2
      subst e1 e2
      exact (snd_clear ho h).toW
    · cases h
  · rename_i as ts ho
    split at h
    · rename_i x y T T2 h1 h2
      have e1 : as = #[x, y] := arr_one h1
      have e2 : ts = #[T, T2] := arr_one h2
      subst e1 e2
      exact (snd_copy ho h).toW
    · cases h
  · cases h

def outZ (P : Program) (Γ : FuncId → List D → RV) (Δ : FuncId → List AV → Hp → Option (List PX × RV)) (fz : List Nat) (o : Oper) (g : Bool) (σ : St) : Option Out :=
  match outY P Δ o g σ with
  | some out => some out
  | none => outOf P Γ fz o g σ

def stepX (P : Program) (Γ : FuncId → List D → RV) (Δ : FuncId → List AV → Hp → Option (List PX × RV)) (n : Nat) (L : List Oper) (fz : List Nat) (o : Oper) (r : Rn) : Option Rn :=
  bif inB n o.dst then (match o.guard with
    | none => match outZ P Γ Δ fz o true r.σ with
      | some out => some ⟨⟨putA o.dst out.av r.σ.e, out.hp ++ r.σ.h⟩, (false, out.know) :: (true, out.side) :: r.its⟩
      | none => none
    | some (j, want) => match gval L r.σ.e j want with
      | some g => match outZ P Γ Δ fz o g r.σ with
        | some out => some ⟨⟨putA o.dst (.gd g out.av) r.σ.e, hg g out.hp ++ r.σ.h⟩, (false, g = true → out.know) :: (true, g = true → out.side) :: r.its⟩
        | none => none
      | none => none) else none
def runX (P : Program) (Γ : FuncId → List D → RV) (Δ : FuncId → List AV → Hp → Option (List PX × RV)) (n : Nat) (L : List Oper) (fz : List Nat) : List Oper → Option Rn → Option Rn
  | _, none => none
  | [], some r => some r
  | o :: os, some r => runX P Γ Δ n L fz os (stepX P Γ Δ n L fz o r)

theorem outZ_snd {Γ : FuncId → List D → RV} {Δ : FuncId → List AV → Hp → Option (List PX × RV)} {fz : List Nat} {out : Out} (h : outZ C.P Γ Δ fz o g σ = some out) : SndW C o g σ out := by
  unfold outZ at h
  split at h
  · rename_i out' h'
    simp only [Option.some.injEq] at h; subst h
    exact outY_snd h'
  · exact outOf_snd h

theorem stepX_sound {Γ : FuncId → List D → RV} {Δ : FuncId → List AV → Hp → Option (List PX × RV)} {L : List Oper} {fz : List Nat} {r r' : Rn} (h : stepX C.P Γ Δ C.n L fz o r = some r') :
    ∃ its, r'.its = its ++ r.its ∧ ∀ (S' : Prop), fin its S' →
      ∀ ι a w, SimI C r.σ ι a w → ∀ (K : Act → World → Prop) (Q : Exit → Act → World → Prop), (S' → ∀ ι' a' w', SimI C r'.σ ι' a' w' → K a' w') →
        if Region.wanted o (yielded L.toArray a.tmps) then o.wp C.P a w K Q else K (a.put o.dst undef) w := by
  unfold stepX at h
  cases hin : inB C.n o.dst
  · simp [hin] at h
  · simp only [hin, cond_true] at h
    have hput : ∀ {σ' : St} {ι' : Nat → Option (Nat × Nat)} {a : Act} {w' : World} {av : AV} {v : Value}, SimI C σ' ι' a w' → RepA (okOf C.F σ'.h ι' w') ι' w' av v → SimI C ⟨putA o.dst av σ'.e, σ'.h⟩ ι' (a.put o.dst v) w' := by
      intro σ' ι' a w' av v S hr
      cases hd : o.dst with
      | none => simpa only [putA, Act.put] using S
      | some d =>
        simp only [putA]
        refine S.put ?_ hr
        simpa [hd, inB] using hin
    split at h
    · rename_i hgd
      split at h
      · rename_i out ho
        simp only [Option.some.injEq] at h; subst h
        refine ⟨[(false, out.know), (true, out.side)], rfl, fun S' hS ι a w S K Q hK => ?_⟩
        simp only [fin] at hS
        have hw : Region.wanted o (yielded L.toArray a.tmps) = true := by simp [Region.wanted, hgd]
        rw [if_pos hw]
        exact outZ_snd ho ι a w S rfl hS.1 K Q (fun v w' ι' hk S1 hr => hK (hS.2 hk) ι' _ w' (hput (σ' := ⟨r.σ.e, out.hp ++ r.σ.h⟩) S1 hr))
      · cases h
    · rename_i j want hgd
      split at h
      · rename_i g hgv
        split at h
        · rename_i out ho
          simp only [Option.some.injEq] at h; subst h
          refine ⟨[(false, g = true → out.know), (true, g = true → out.side)], rfl, fun S' hS ι a w S K Q hK => ?_⟩
          simp only [fin] at hS
          rw [gval_rep S hgd hgv]
          cases g with
          | true =>
            simp only [if_true]
            refine outZ_snd ho ι a w S rfl (hS.1 rfl) K Q (fun v w' ι' hk S1 hr => hK (hS.2 (fun _ => hk)) ι' _ w' ?_)
            rw [hg_true]
            exact hput (σ' := ⟨r.σ.e, out.hp ++ r.σ.h⟩) S1 (by simp only [RepA]; exact ⟨(fun _ => hr), (fun h => by cases h)⟩)
          | false =>
            simp only [Bool.false_eq_true, if_false]
            refine hK (hS.2 (fun h => by cases h)) ι _ w ?_
            exact hput (σ' := ⟨r.σ.e, hg false out.hp ++ r.σ.h⟩) (hg_false (e := r.σ.e) (h := out.hp) (h0 := r.σ.h) S) (by simp only [RepA]; exact ⟨(fun h => by cases h), (fun _ => trivial)⟩)
        · cases h
      · cases h

theorem runX_none {P : Program} {Γ : FuncId → List D → RV} {Δ : FuncId → List AV → Hp → Option (List PX × RV)} {n : Nat} {L : List Oper} {fz : List Nat} : ∀ {os : List Oper}, runX P Γ Δ n L fz os none = none
  | [] => rfl
  | _ :: _ => rfl

theorem runX_sound {Γ : FuncId → List D → RV} {Δ : FuncId → List AV → Hp → Option (List PX × RV)} {L : List Oper} {fz : List Nat} {K : St → Prop} {Q : Exit → Act → World → Prop} (hQ : ∀ σ a w, K σ → Sim C σ a w → Q .normal a w) :
    ∀ (os : List Oper) (k : Nat) (r : Rn), L.drop k = os → Hold (runX C.P Γ Δ C.n L fz os (some r)) K → fin r.its (∀ ι a w, SimI C r.σ ι a w → wpOps C.P L.toArray Q (List.range' k os.length) a w)
  | [], k, r, hk, h => by
    simp only [runX, Hold] at h
    refine fin_mono (fun hK ι a w S => ?_) h
    simp only [List.length_nil, List.range'_zero, wpOps]
    exact hQ _ a w hK ⟨ι, S⟩
  | o :: os, k, r, hk, h => by
    simp only [runX] at h
    cases hs : stepX C.P Γ Δ C.n L fz o r with
    | none => rw [hs, runX_none] at h; exact h.elim
    | some r' =>
      rw [hs] at h
      obtain ⟨its, hi, hstep⟩ := stepX_sound hs
      have hk' : L.drop (k + 1) = os := by rw [← List.drop_drop, hk]; rfl
      have ho : L[k]? = some o := by
        have := congrArg (·[0]?) hk
        simpa using this
      have ih := runX_sound hQ os (k + 1) r' hk' h
      rw [hi] at ih
      refine fin_mono (fun hS ι a w S => ?_) (fin_append ih)
      simp only [List.length_cons, List.range'_succ, wpOps, List.getElem?_toArray, ho]
      have h1 := hstep _ hS ι a w S (wpOps C.P L.toArray Q (List.range' (k + 1) os.length)) Q (fun hh ι' a' w' S' => hh ι' a' w' S')
      split
      · rename_i hw; rw [if_pos hw] at h1; exact .inl h1
      · rename_i hw; rw [if_neg hw] at h1; exact h1

theorem WA_regionX {K R : St → Prop} {E : Nat → St → Prop} {id : Nat} {ops : Array Oper} (Γ : FuncId → List D → RV) (Δ : FuncId → List AV → Hp → Option (List PX × RV)) (fz V : List Nat) (h : Hold (runX C.P Γ Δ C.n ops.toList fz ops.toList (some ⟨σ, []⟩)) (fun σ' => K (gather V σ'))) : WA C (.region id ops false) K R E σ := by
  unfold WA
  intro a w S
  obtain ⟨ι, S⟩ := S
  have h1 := runX_sound (C := C) (Q := QQ C K R E) (K := fun σ' => K (gather V σ')) (fun σ a w hk hs => ⟨_, hk, hs.gather V⟩) ops.toList 0 ⟨σ, []⟩ (by simp) h
  simp only [fin] at h1
  have h2 := h1 ι a w S
  refine wp_region ?_
  simpa [List.range_eq_range'] using h2
theorem V_regionX {K R : St → Prop} {E : Nat → St → Prop} {id : Nat} {ops : Array Oper} (Γ : FuncId → List D → RV) (Δ : FuncId → List AV → Hp → Option (List PX × RV)) (fz V : List Nat) (h : Ev (Hold (runX C.P Γ Δ C.n ops.toList fz ops.toList (some ⟨σ, []⟩)) (fun σ' => K (gather V σ')))) : WA C (.region id ops false) K R E σ := WA_regionX Γ Δ fz V h.out

theorem wa_id {K R : St → Prop} {E : Nat → St → Prop} {c : Code} (h : WA C c K R E σ) : WA C c K R E σ := h

theorem Fn.mono {P : Program} {f : FuncId} {ds ds' : List D} {r : RV} (hd : ∀ (ok : Nat → Prop) (w : World) (vs : List Value), RepL ok w ds vs → RepL ok w ds' vs) (h : Fn P f ds' r) : Fn P f ds r :=
  fun w vs G hv => h w vs G (hd _ w _ hv)
def Jn {α : Type} (f : α → List (Nat × AV)) (fh : α → Hp) (e0 : List (Nat × AV)) (h0 : Hp) (I : α → Prop) (σ' : St) : Prop :=
  ∃ x' ρ, I x' ∧ Sub ρ σ' ⟨f x' ++ e0, fh x' ++ h0⟩
theorem V_jn {α : Type} {f : α → List (Nat × AV)} {fh : α → Hp} {e0 : List (Nat × AV)} {h0 : Hp} {I : α → Prop} (ρ : List (Nat × Option Nat)) (x' : α) (h3 : Ev (Sub ρ σ ⟨f x' ++ e0, fh x' ++ h0⟩)) (h1 : I x') : Jn f fh e0 h0 I σ := ⟨x', ρ, h1, h3.out⟩
theorem V_cut {K R : St → Prop} {E : Nat → St → Prop} {x y : Code} {α : Type} (W WH : List Nat) (f : α → List (Nat × AV)) (fh : α → Hp) (I : α → Prop)
    (h : WA C x (Jn f fh (clr W σ.e) (clrh WH σ.h) I) R E σ) (hy : ∀ z, I z → WA C y K R E ⟨f z ++ clr W σ.e, fh z ++ clrh WH σ.h⟩) : WA C (.seq x y) K R E σ :=
  WA_seq (h.mono (fun _ ⟨z, _, hz, hs⟩ => WA_sub hs.sim (hy z hz)) (fun _ h => h) (fun _ _ h => h))
theorem FnX.by {P : Program} {f : FuncId} {fn : Func} {ps : List PX} {r : RV} (n : Nat) (rv : List ResultVar) (hf : P.funcs[f]? = some fn) (hb : fn.body = some (fcd fn [])) (hn : fn.ntmps = n) (hrv : fn.results.toList = rv) (hl : ps.length ≤ n) (hpl : PX.plains ps = true) (hfl : r.flat = true)
    (h : ∀ w0 X u, WA ⟨P, w0, X, n, fun _ => False⟩ (fcd fn []) (fun σ => Ret P rv r σ ∧ outX u σ 0 ps) (fun σ => Ret P rv r σ ∧ outX u σ 0 ps) (fun _ _ => False) ⟨pinned 0 u ps, hpI 0 ps⟩) : FnX P f ps r := by
  subst hn hrv
  exact FnX.of hf hb hl hpl hfl h
end
end Go.Eng

