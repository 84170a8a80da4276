import Derived.Test.YtfpimhkkknfmcaaEngR
namespace Go.Eng
open Go.RowKit

def hpFree (k : Nat) (h : Hp) : Bool := h.all fun p => match p.2 with
  | none => true
  | some x => !x.2.refs k

section
variable {P : Program} {σ σ' : St} {o : Oper} {g : Bool}

theorem fresh_geth {k nm : Nat} {b : Bool} {x : Ent} (hf : fresh k σ = true) (h : geth σ.h nm = some (b, x)) : x.refs k = false := by
  simp only [fresh, Bool.and_eq_true] at hf
  exact geth_refs hf.2 h

theorem rdA_refs {k sz : Nat} {ag : Bool} {c : List AV} {r : AV} (hc : AV.refsL k c = false) (h : rdA sz ag c = some r) : r.refs k = false := by
  unfold rdA at h
  cases ag
  · simp only [cond_false] at h; exact refsL_get hc h
  · simp only [cond_true] at h
    cases hb : decide (sz ≤ c.length)
    · simp [hb] at h
    · simp only [hb, cond_true, Option.some.injEq] at h; subst h
      exact mkAgg_refs (refsL_take _ hc)
theorem rdD_refs {k sz : Nat} {ag : Bool} {c : List D} {r : AV} (h : rdD sz ag c = some r) : r.refs k = false := by
  unfold rdD at h
  cases ag
  · simp only [cond_false] at h
    split at h
    · simp only [Option.some.injEq] at h; subst h; rfl
    · cases h
  · simp only [cond_true] at h
    cases hb : decide (sz ≤ c.length)
    · simp [hb] at h
    · simp only [hb, cond_true, Option.some.injEq] at h; subst h; rfl

theorem opV_refs {fz : Bool} {out : Out} {k : Nat} (h : opV P fz o g σ = some out) (hf : fresh k σ = true) (hn : ¬ isNm o k) : out.av.refs k = false ∧ hpFree k out.hp = true := by
  have hop : ∀ x, (opnd σ.e x).refs k = false := opnd_refs hf
  have hsp : ∀ x, (sp (opnd σ.e x)).refs k = false := fun x => sp_refs (hop x)
  have hne : ∀ d, o.dst = some d → (d == k) = false := fun d hd => by
    simp only [beq_eq_false_iff_ne]; intro e; exact hn ⟨d, hd, .inl e.symm⟩
  unfold opV at h
  split at h
  · simp only [Option.some.injEq] at h; subst h; exact ⟨hop _, rfl⟩
  · simp only [Option.some.injEq] at h; subst h; exact ⟨hop _, rfl⟩
  · unfold vPick at h
    split at h
    · simp only [Option.some.injEq] at h; subst h; exact ⟨rfl, rfl⟩
    · cases h
  · split at h
    · rename_i d hd
      unfold vAlloc at h
      split at h
      · cases hfr : fresh d σ
        · simp [hfr] at h
        · simp only [hfr, cond_true, Option.some.injEq] at h; subst h
          exact ⟨by simp [AV.refs]; simpa using hne d hd, by simp [hpFree, Ent.refs, refsL_dat]⟩
      · cases h
    · cases h
  · split at h
    · rename_i d hd
      unfold vBox at h
      split at h
      · rename_i c hc
        cases hfr : fresh d σ
        · simp [hfr] at h
        · simp only [hfr, cond_true, Option.some.injEq] at h; subst h
          exact ⟨by simp [AV.refs]; simpa using hne d hd, by simp [hpFree, Ent.refs, cellsOf_refs hc (hsp _)]⟩
      · cases h
    · cases h
  · rename_i T ps _
    unfold vBuild at h
    split at h
    · split at h
      · rename_i l hb
        simp only [Option.some.injEq] at h; subst h
        refine ⟨mkAgg_refs (bld_refs (fun p hp => ?_) refsL_dat hb), rfl⟩
        simp only [partsA, List.mem_map] at hp
        obtain ⟨q, _, rfl⟩ := hp
        exact hop q.2
      · cases h
    · cases h
  · split at h
    · rename_i d hd
      unfold vBuildS at h
      split at h
      · cases h
      · split at h
        · cases h
        · simp only [Bool.cond_eq_ite] at h
          split at h
          · split at h
            · cases h
            · split at h
              · simp only [Option.some.injEq] at h; subst h; exact ⟨rfl, rfl⟩
              · split at h
                · simp only [Option.some.injEq] at h; subst h
                  exact ⟨by simp [AV.refs]; simpa using hne d hd, by simp [hpFree, Ent.refs]⟩
                · cases h
          · cases h
    · cases h
  · rename_i T x _
    unfold vLoad at h
    split at h
    · cases h
    · split at h
      · split at h
        · rename_i hg
          split at h
          · rename_i r hr
            simp only [Option.some.injEq] at h; subst h
            refine ⟨rdA_refs (refsL_drop _ ?_) hr, rfl⟩
            exact fresh_geth hf hg
          · cases h
        · cases h
      · split at h
        · rename_i r hr
          simp only [Option.some.injEq] at h; subst h
          exact ⟨rdD_refs hr, rfl⟩
        · cases h
      · split at h
        · split at h
          · rename_i r hr
            simp only [Bool.cond_eq_ite] at h
            split at h
            · simp only [Option.some.injEq] at h; subst h
              exact ⟨rdD_refs hr, rfl⟩
            · cases h
          · cases h
        · cases h
      · cases h
  · rename_i T x y _
    unfold vStore at h
    split at h
    · rename_i sz _ cs _ hcs
      simp only [Bool.cond_eq_ite] at h
      split at h
      · split at h
        · split at h
          · rename_i hg
            split at h
            · simp only [Option.some.injEq] at h; subst h
              exact ⟨rfl, by simp [hpFree, Ent.refs, refsL_spl (fresh_geth hf hg) (cellsOf_refs hcs (hsp y))]⟩
            · cases h
          · cases h
        · split at h
          · split at h
            · simp only [Option.some.injEq] at h; subst h
              exact ⟨rfl, by simp [hpFree, Ent.refs]⟩
            · cases h
          · cases h
        · cases h
      · cases h
    · cases h
  · unfold vBin at h
    simp only [Bool.cond_eq_ite] at h
    repeat' (split at h)
    all_goals (first | (cases h; done) | (simp only [Option.some.injEq] at h; subst h; exact ⟨rfl, rfl⟩))
  · unfold vUn at h
    split at h
    · simp only [Option.some.injEq] at h; subst h; exact ⟨rfl, rfl⟩
    · simp only [Option.some.injEq] at h; subst h; exact ⟨rfl, rfl⟩
    · cases h
  · unfold vConv at h
    simp only [Bool.cond_eq_ite] at h
    repeat' (split at h)
    all_goals (first | (cases h; done) | (simp only [Option.some.injEq] at h; subst h; exact ⟨rfl, rfl⟩))
  · split at h
    · rename_i d hd
      unfold vMake at h
      simp only [Bool.cond_eq_ite] at h
      repeat' (split at h)
      all_goals (first | (cases h; done) | (simp only [Option.some.injEq] at h; subst h; exact ⟨rfl, rfl⟩) | (simp only [Option.some.injEq] at h; subst h; exact ⟨by simp [AV.refs]; simpa using hne d hd, by simp [hpFree, Ent.refs]⟩))
    · cases h
  · rename_i T x lo hi _
    unfold vSlice at h
    split at h
    · split at h
      · rename_i nm oo m n hx
        have hnm : (nm == k) = false := by have := hsp x; rw [hx] at this; simpa only [AV.refs] using this
        split at h
        · simp only [Bool.cond_eq_ite] at h
          split at h
          · simp only [Option.some.injEq] at h; subst h; exact ⟨by simpa only [AV.refs] using hnm, rfl⟩
          · cases h
        · cases h
      · split at h
        · simp only [Bool.cond_eq_ite] at h
          split at h
          · simp only [Option.some.injEq] at h; subst h; exact ⟨rfl, rfl⟩
          · cases h
        · cases h
      · cases h
    · cases h
  · rename_i T x f _
    unfold vFld at h
    split at h
    · cases h
    · simp only [Bool.cond_eq_ite] at h
      split at h
      · cases h
      · split at h
        · rename_i nm oo hx
          have := hsp x; rw [hx] at this
          simp only [Option.some.injEq] at h; subst h; exact ⟨by simpa only [AV.refs] using this, rfl⟩
        · rename_i nm k f n hx
          have := hsp x; rw [hx] at this
          simp only [Option.some.injEq] at h; subst h; exact ⟨by simpa only [AV.refs] using this, rfl⟩
        · simp only [Option.some.injEq] at h; subst h; exact ⟨rfl, rfl⟩
        · cases h
  · rename_i T x y _
    unfold vIdx at h
    split at h
    · cases h
    · split at h
      · rename_i nm oo m n hx
        have := hsp x; rw [hx] at this
        simp only [Bool.cond_eq_ite] at h
        repeat' (split at h)
        all_goals (first | (cases h; done) | (simp only [Option.some.injEq] at h; subst h; exact ⟨by simpa only [AV.refs] using this, rfl⟩))
      · simp only [Bool.cond_eq_ite] at h
        repeat' (split at h)
        all_goals (first | (cases h; done) | (simp only [Option.some.injEq] at h; subst h; exact ⟨rfl, rfl⟩))
      · rename_i nm oo hx
        have := hsp x; rw [hx] at this
        simp only [Bool.cond_eq_ite] at h
        repeat' (split at h)
        all_goals (first | (cases h; done) | (simp only [Option.some.injEq] at h; subst h; exact ⟨by simpa only [AV.refs] using this, rfl⟩))
      · cases h
  · rename_i x i _
    unfold vExtr at h
    split at h
    · rename_i l hx
      have := hsp x; rw [hx] at this
      split at h
      · rename_i a ha
        simp only [Option.some.injEq] at h; subst h
        exact ⟨refsL_get (by simpa only [AV.refs] using this) ha, rfl⟩
      · cases h
    · cases h
  · split at h
    · unfold vLen at h
      repeat' (split at h)
      all_goals (first | (cases h; done) | (simp only [Option.some.injEq] at h; subst h; exact ⟨rfl, rfl⟩))
    · cases h
  · unfold vMin at h
    repeat' (split at h)
    all_goals (first | (cases h; done) | (simp only [Option.some.injEq] at h; subst h; exact ⟨rfl, rfl⟩))
  · unfold vMax at h
    repeat' (split at h)
    all_goals (first | (cases h; done) | (simp only [Option.some.injEq] at h; subst h; exact ⟨rfl, rfl⟩))
  · split at h
    · rename_i x y T T' d _ _ hd
      simp only [Bool.cond_eq_ite] at h
      split at h
      · unfold vApp at h
        split at h
        · cases h
        · split at h
          · cases h
          · simp only [Bool.cond_eq_ite] at h
            split at h
            · split at h
              · rename_i nm l s1 l' s2 _ _
                simp only [Option.some.injEq] at h; subst h
                refine ⟨by simp [AV.refs]; simpa using hne d hd, ?_⟩
                cases nm <;> simp [hpFree, Ent.refs]
              · cases h
            · cases h
      · cases h
    · cases h
  · unfold vIndex at h
    repeat' (split at h)
    all_goals (try simp only [Bool.cond_eq_ite] at h)
    all_goals (repeat' (split at h))
    all_goals (first | (cases h; done) | (simp only [Option.some.injEq] at h; subst h; exact ⟨rfl, rfl⟩))
  · cases h

theorem outOf_refs {Γ : FuncId → List D → RV} {fz : List Nat} {out : Out} {k : Nat} (h : outOf P Γ fz o g σ = some out) (hf : fresh k σ = true) (hn : ¬ isNm o k) : out.av.refs k = false ∧ hpFree k out.hp = true := by
  unfold outOf at h
  split at h
  · split at h
    · rename_i d hd
      simp only [Bool.cond_eq_ite] at h
      split at h
      · unfold vCall at h
        split at h
        · cases h
        · rename_i ds p _
          unfold vCallR at h
          simp only [Bool.cond_eq_ite] at h
          split at h
          · simp only [Option.some.injEq] at h; subst h
            exact ⟨still_refs _ _, rfl⟩
          · split at h
            · rename_i hfr
              simp only [Bool.and_eq_true, decide_eq_true_eq] at hfr
              simp only [Option.some.injEq] at h; subst h
              constructor
              · cases hr : (inst (10000 + 100 * d) _).1.refs k with
                | false => rfl
                | true =>
                  have := inst_within _ _ _ hr
                  exact absurd ⟨d, hd, .inr ⟨this.1, by omega⟩⟩ hn
              · simp only [hpFree, List.all_eq_true]
                intro q hq
                obtain ⟨m, x⟩ := q
                obtain ⟨_, _, b, T, n, l, rfl⟩ := inst_names _ _ m x hq
                simp [Ent.refs]
            · cases h
      · cases h
    · cases h
  · exact opV_refs h hf hn

/-- What is made is new. -/
theorem outOf_names {Γ : FuncId → List D → RV} {fz : List Nat} {out : Out} (h : outOf P Γ fz o g σ = some out) (hm : muts o = false) : ∀ m x, (m, x) ∈ out.hp → isNm o m ∧ fresh m σ = true := by
  unfold outOf at h
  split at h
  · split at h
    · rename_i d hd
      simp only [Bool.cond_eq_ite] at h
      split at h
      · unfold vCall at h
        split at h
        · cases h
        · rename_i ds p _
          unfold vCallR at h
          simp only [Bool.cond_eq_ite] at h
          split at h
          · simp only [Option.some.injEq] at h; subst h; simp
          · split at h
            · rename_i hfr
              simp only [Bool.and_eq_true, decide_eq_true_eq] at hfr
              simp only [Option.some.injEq] at h; subst h
              intro m x hmx
              obtain ⟨q1, q2, _⟩ := inst_names _ _ m x hmx
              exact ⟨⟨d, hd, .inr ⟨q1, by omega⟩⟩, freshR_spec hfr.1 q1 (by omega)⟩
            · cases h
      · cases h
    · cases h
  · unfold opV at h
    simp only [Bool.cond_eq_ite] at h
    split at h
    case h_4 =>
      split at h
      · rename_i d hd
        unfold vAlloc at h
        simp only [Bool.cond_eq_ite] at h
        repeat' (split at h)
        all_goals (first | (cases h; done) | (rename_i hfr; simp only [Option.some.injEq] at h; subst h; simp only [List.mem_singleton, Prod.mk.injEq]; rintro m x ⟨rfl, _⟩; exact ⟨⟨_, hd, .inl rfl⟩, hfr⟩))
      · cases h
    case h_5 =>
      split at h
      · rename_i d hd
        unfold vBox at h
        simp only [Bool.cond_eq_ite] at h
        repeat' (split at h)
        all_goals (first | (cases h; done) | (rename_i hfr; simp only [Option.some.injEq] at h; subst h; simp only [List.mem_singleton, Prod.mk.injEq]; rintro m x ⟨rfl, _⟩; exact ⟨⟨_, hd, .inl rfl⟩, hfr⟩))
      · cases h
    case h_7 =>
      split at h
      · rename_i d hd
        unfold vBuildS at h
        simp only [Bool.cond_eq_ite] at h
        repeat' (split at h)
        all_goals (first | (cases h; done) | (simp only [Option.some.injEq] at h; subst h; simp; done) | (rename_i hfr; simp only [Option.some.injEq] at h; subst h; simp only [List.mem_singleton, Prod.mk.injEq]; rintro m x ⟨rfl, _⟩; exact ⟨⟨_, hd, .inl rfl⟩, hfr⟩))
      · cases h
    case h_13 =>
      split at h
      · rename_i d hd
        unfold vMake at h
        simp only [Bool.cond_eq_ite] at h
        repeat' (split at h)
        all_goals (first | (cases h; done) | (simp only [Option.some.injEq] at h; subst h; simp; done) | (rename_i hfr; simp only [Option.some.injEq] at h; subst h; simp only [List.mem_singleton, Prod.mk.injEq]; rintro m x ⟨rfl, _⟩; exact ⟨⟨_, hd, .inl rfl⟩, hfr⟩))
      · cases h
    case h_9 ho => simp [muts, ho] at hm
    case h_21 ho => simp [muts, ho] at hm
    all_goals (first | (cases h; done) | (simp only [Option.some.injEq] at h; subst h; simp; done) | skip)
    all_goals (first | unfold vPick at h | unfold vBuild at h | unfold vLoad at h | unfold vBin at h | unfold vUn at h | unfold vConv at h | unfold vSlice at h | unfold vFld at h | unfold vIdx at h | unfold vExtr at h | unfold vMin at h | unfold vMax at h | unfold vLen at h | unfold vIndex at h)
    all_goals (try simp only [Bool.cond_eq_ite] at h)
    all_goals (repeat' (split at h))
    all_goals (first | (cases h; done) | (simp only [Option.some.injEq] at h; subst h; simp))
end
end Go.Eng
