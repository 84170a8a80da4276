import Derived.Test.YtfpimhkkknfmcaaEngQ
namespace Go.Eng
open Go.RowKit

/-! ### Regions that draw their order -/

structure OutD where
  av : AV
  hp : Hp
  side : Prop

def outD (P : Program) (Γ : FuncId → List D → RV) (fz : List Nat) (o : Oper) (g : Bool) (σ : St) : Option OutD :=
  (outOf P Γ fz o g σ).map fun x => ⟨x.av, x.hp, x.side⟩

def isNm (o : Oper) (k : Nat) : Prop := ∃ d, o.dst = some d ∧ (k = d ∨ (10000 + 100 * d ≤ k ∧ k < 10000 + 100 * d + 100))

/-- It looks at owned blocks, or makes some. -/
def touch (o : Oper) : Bool := match o.op with
  | .load .. | .store .. | .alloc _ | .box .. | .buildSlice .. | .makeSlice .. => true
  | .call ⟨.value _, _, _⟩ => true
  | .call ⟨.builtin .append, _, _⟩ => true
  | _ => false
/-- It changes owned blocks. -/
def muts (o : Oper) : Bool := match o.op with
  | .store .. => true
  | .call ⟨.builtin .append, _, _⟩ => true
  | _ => false

section
variable {P : Program} {σ σ' : St} {o : Oper} {g : Bool}

theorem refs_sp {k : Nat} : ∀ {a : AV}, (sp a).refs k = true → a.refs k = true
  | .gd _ x, h => by simp only [AV.refs]; simp only [sp] at h; exact refs_sp h
  | .un, h | .dat _, h | .agg _, h | .tup _, h | .rp _, h | .pt .., h | .ep .., h | .vw .., h => by simpa only [sp] using h

mutual
theorem toD_local {h h' : Hp} : ∀ (a : AV), (∀ k, a.refs k = true → geth h k = geth h' k) → toD h a = toD h' a
  | .dat d, _ => by simp only [toD]
  | .vw nm o m n, hh => by simp only [toD, hh nm (by simp [AV.refs])]
  | .agg l, hh => by simp only [toD, toDs_local l (fun k hk => hh k (by simpa only [AV.refs] using hk))]
  | .un, _ | .tup _, _ | .rp _, _ | .pt .., _ | .ep .., _ | .gd .., _ => by simp only [toD]
theorem toDs_local {h h' : Hp} : ∀ (l : List AV), (∀ k, AV.refsL k l = true → geth h k = geth h' k) → toDs h l = toDs h' l
  | [], _ => by simp only [toDs]
  | a :: l, hh => by simp only [toDs, toD_local a (fun k hk => hh k (by simp [AV.refsL, hk])), toDs_local l (fun k hk => hh k (by simp [AV.refsL, hk]))]
end

theorem argsD_local {h h' : Hp} : ∀ (l : List AV), (∀ a ∈ l, ∀ k, a.refs k = true → geth h k = geth h' k) → argsD g h l = argsD g h' l
  | [], _ => rfl
  | a :: l, hh => by
    simp only [argsD, toD_local (sp a) (fun k hk => hh a (by simp) k (refs_sp hk)), argsD_local l (fun b hb => hh b (by simp [hb]))]

theorem vLoad_local {T : Nat} {h h' : Hp} {x : AV} (hh : ∀ k, x.refs k = true → geth h k = geth h' k) : vLoad P T g h x = vLoad P T g h' x := by
  unfold vLoad
  cases hs : sp x <;> simp only <;> (try rfl)
  · rename_i nm o
    rw [hh nm (refs_sp (by simp [hs, AV.refs]))]
  · rename_i nm k f n
    rw [hh nm (refs_sp (by simp [hs, AV.refs]))]

theorem vStore_local {T : Nat} {h h' : Hp} {x y : AV} (hh : ∀ k, x.refs k = true → geth h k = geth h' k) : vStore P T g h x y = vStore P T g h' x y := by
  unfold vStore
  cases hs : sp x <;> simp only <;> (try rfl)
  · rename_i nm o
    rw [hh nm (refs_sp (by simp [hs, AV.refs]))]
  · rename_i nm k f n
    rw [hh nm (refs_sp (by simp [hs, AV.refs]))]

theorem srcOf_local {n : Nat} {h h' : Hp} {x : AV} (hh : ∀ k, x.refs k = true → geth h k = geth h' k) : srcOf n g h x = srcOf n g h' x := by
  unfold srcOf
  cases hs : sp x with
  | vw nm o m n => simp only [hh nm (refs_sp (by simp [hs, AV.refs]))]
  | dat d => split <;> first | rfl | simp_all
  | _ => rfl

theorem dstOf_local {T n : Nat} {h h' : Hp} {x : AV} (hh : ∀ k, x.refs k = true → geth h k = geth h' k) : dstOf T n g h x = dstOf T n g h' x := by
  unfold dstOf
  cases hs : sp x with
  | vw nm o m n => simp only [hh nm (refs_sp (by simp [hs, AV.refs]))]
  | dat d => split <;> first | rfl | simp_all
  | _ => rfl

theorem vAlloc_local {d T : Nat} {out : Out} (hf : fresh d σ = true → fresh d σ' = true) (h : vAlloc P d T σ = some out) : vAlloc P d T σ' = some out := by
  cases hfr : fresh d σ
  · unfold vAlloc at h
    simp only [hfr, cond_false] at h
    split at h <;> cases h
  · rw [← h]; unfold vAlloc; rw [hfr, hf hfr]

theorem vBox_local {d T : Nat} {x : AV} {out : Out} (hf : fresh d σ = true → fresh d σ' = true) (h : vBox d T g σ x = some out) : vBox d T g σ' x = some out := by
  cases hfr : fresh d σ
  · unfold vBox at h
    simp only [hfr, cond_false] at h
    split at h <;> cases h
  · rw [← h]; unfold vBox; rw [hfr, hf hfr]

theorem vBuildS_local {fz : Bool} {d T len : Nat} {ps : List (Nat × AV)} {out : Out} (hf : fresh d σ = true → fresh d σ' = true) (h : vBuildS P fz d T len g σ ps = some out) : vBuildS P fz d T len g σ' ps = some out := by
  cases fz
  · cases hfr : fresh d σ
    · unfold vBuildS at h
      simp only [hfr, Bool.cond_eq_ite, Bool.false_eq_true, if_false] at h
      repeat' (split at h)
      all_goals cases h
    · rw [← h]; unfold vBuildS; rw [hfr, hf hfr]
  · rw [← h]; unfold vBuildS; rfl

theorem vMake_local {fz : Bool} {d T : Nat} {x y : AV} {out : Out} (hf : fresh d σ = true → fresh d σ' = true) (h : vMake P fz d T g σ x y = some out) : vMake P fz d T g σ' x y = some out := by
  cases fz
  · cases hfr : fresh d σ
    · unfold vMake at h
      simp only [hfr, Bool.cond_eq_ite, Bool.false_eq_true, if_false] at h
      repeat' (split at h)
      all_goals cases h
    · rw [← h]; unfold vMake; rw [hfr, hf hfr]
  · rw [← h]; unfold vMake; rfl

theorem vApp_local {d T : Nat} {x y : AV} {out : Out} (hx : ∀ k, x.refs k = true → geth σ.h k = geth σ'.h k) (hy : ∀ k, y.refs k = true → geth σ.h k = geth σ'.h k) (hf : fresh d σ = true → fresh d σ' = true)
    (h : vApp P d T g σ x y = some out) : vApp P d T g σ' x y = some out := by
  cases hfr : fresh d σ
  · unfold vApp at h
    simp only [hfr, Bool.and_false, cond_false] at h
    repeat' (split at h)
    all_goals cases h
  · rw [← h]; unfold vApp; simp only [dstOf_local hx, srcOf_local hy, hfr, hf hfr]

theorem freshR_mono {σ σ' : St} : ∀ {n k : Nat}, (∀ j, k ≤ j → j < k + n → fresh j σ = true → fresh j σ' = true) → freshR σ k n = true → freshR σ' k n = true
  | 0, _, _, _ => rfl
  | n + 1, k, hh, h => by
    simp only [freshR, Bool.and_eq_true] at h ⊢
    exact ⟨hh k (Nat.le_refl _) (by omega) h.1, freshR_mono (fun j h1 h2 => hh j (by omega) (by omega)) h.2⟩

theorem partsA_congr {e e' : List (Nat × AV)} {ps : Array (Nat × Operand)} (h : ∀ p ∈ ps.toList, opnd e p.2 = opnd e' p.2) : partsA e ps = partsA e' ps := by
  unfold partsA
  exact List.map_congr_left fun p hp => by rw [h p hp]

/-- An operation's outcome hangs on its operands, on the blocks that they name, on the new names being free. -/
theorem outD_local {Γ : FuncId → List D → RV} {fz : List Nat} {r : OutD} (ha : ∀ x ∈ o.op.operands, opnd σ.e x = opnd σ'.e x)
    (hb : touch o = true → ∀ x ∈ o.op.operands, ∀ k, (opnd σ.e x).refs k = true → geth σ.h k = geth σ'.h k) (hc : touch o = true → ∀ k, isNm o k → fresh k σ = true → fresh k σ' = true)
    (h : outD P Γ fz o g σ = some r) : outD P Γ fz o g σ' = some r := by
  simp only [outD, Option.map_eq_some_iff] at h ⊢
  obtain ⟨out, h1, h2⟩ := h
  unfold outOf at h1 ⊢
  cases hco : callOf o with
  | some fa =>
    obtain ⟨f, as⟩ := fa
    simp only [hco] at h1 ⊢
    have hop : ∀ x ∈ as, x ∈ o.op.operands := by
      unfold callOf at hco
      split at hco
      · rename_i f' as' ts ho
        simp only [Option.some.injEq, Prod.mk.injEq] at hco
        obtain ⟨_, rfl⟩ := hco
        intro x hx
        rw [ho]
        simp only [Op.operands, Call.operands]
        simp [Array.mem_toList_iff.1 hx]
      · cases hco
    have ht : touch o = true := by
      unfold callOf at hco
      split at hco
      · rename_i f' as' ts ho
        simp [touch, ho]
      · cases hco
    have hb := hb ht
    have hc := hc ht
    have hmap : as.map (opnd σ.e) = as.map (opnd σ'.e) := List.map_congr_left fun x hx => ha x (hop x hx)
    split at h1
    · rename_i d hd
      cases hfn : isFn P f
      · simp [hfn] at h1
      · simp only [hfn, cond_true] at h1 ⊢
        unfold vCall at h1 ⊢
        have hargs : argsD g σ.h (as.map (opnd σ.e)) = argsD g σ'.h (as.map (opnd σ'.e)) := by
          rw [← hmap]
          refine argsD_local _ fun a hm k hk => ?_
          simp only [List.mem_map] at hm
          obtain ⟨x, hx, rfl⟩ := hm
          exact hb x (hop x hx) k hk
        rw [← hargs]
        split at h1
        · cases h1
        · rename_i ds p _
          unfold vCallR at h1 ⊢
          cases hz : fz.contains d
          · simp only [hz, cond_false] at h1 ⊢
            cases hfr : (freshR σ (10000 + 100 * d) ((inst (10000 + 100 * d) (Γ f ds)).2.2 - (10000 + 100 * d)) && decide ((inst (10000 + 100 * d) (Γ f ds)).2.2 ≤ 10000 + 100 * d + 100))
            · simp [hfr] at h1
            · simp only [hfr, cond_true] at h1
              simp only [Bool.and_eq_true, decide_eq_true_eq] at hfr
              have hle := hfr.2
              have hfr' := freshR_mono (σ' := σ') (fun j h1 h2 hj => hc j ⟨d, hd, .inr ⟨h1, by omega⟩⟩ hj) hfr.1
              simp only [hfr', hle, decide_true, Bool.and_self, cond_true]
              exact ⟨out, h1, h2⟩
          · simp only [hz, cond_true] at h1 ⊢
            exact ⟨out, h1, h2⟩
    · cases h1
  | none =>
    simp only [hco] at h1 ⊢
    have hmk : ∀ {x y : Option Out}, x = y → x = some out → ∃ a, y = some a ∧ (⟨a.av, a.hp, a.side⟩ : OutD) = r := fun e he => ⟨out, by rw [← e]; exact he, h2⟩
    unfold opV at h1 ⊢
    split at h1
    · rename_i x ho
      simp only [ho, Op.operands] at ha ⊢
      exact hmk (by rw [ha x (by simp)]) h1
    · rename_i x ho
      simp only [ho, Op.operands] at ha ⊢
      exact hmk (by rw [ha x (by simp)]) h1
    · rename_i c x y ho
      simp only [ho, Op.operands] at ha ⊢
      exact hmk (by rw [ha c (by simp), ha x (by simp), ha y (by simp)]) h1
    · rename_i T ho
      split at h1
      · rename_i d hd
        exact ⟨out, vAlloc_local (hc (by simp [touch, ho]) d ⟨d, hd, .inl rfl⟩) h1, h2⟩
      · cases h1
    · rename_i T x ho
      split at h1
      · rename_i d hd
        simp only [ho, Op.operands] at ha
        rw [← ha x (by simp)]
        exact ⟨out, vBox_local (hc (by simp [touch, ho]) d ⟨d, hd, .inl rfl⟩) h1, h2⟩
      · cases h1
    · rename_i T ps ho
      simp only [ho, Op.operands] at ha ⊢
      exact hmk (by rw [partsA_congr fun p hp => ha p.2 (by simp; exact ⟨p.1, by simpa using hp⟩)]) h1
    · rename_i T len ps ho
      split at h1
      · rename_i d hd
        simp only [ho, Op.operands] at ha
        rw [← partsA_congr fun p hp => ha p.2 (by simp; exact ⟨p.1, by simpa using hp⟩)]
        exact ⟨out, vBuildS_local (hc (by simp [touch, ho]) d ⟨d, hd, .inl rfl⟩) h1, h2⟩
      · cases h1
    · rename_i T x ho
      have ht0 : touch o = true := by simp [touch, ho]
      simp only [ho, Op.operands] at ha hb ⊢
      exact hmk (by rw [vLoad_local (hb ht0 x (by simp)), ha x (by simp)]) h1
    · rename_i T x y ho
      have ht0 : touch o = true := by simp [touch, ho]
      simp only [ho, Op.operands] at ha hb ⊢
      exact hmk (by rw [vStore_local (hb ht0 x (by simp)), ha x (by simp), ha y (by simp)]) h1
    · rename_i op T x y T' ho
      simp only [ho, Op.operands] at ha ⊢
      exact hmk (by rw [ha x (by simp), ha y (by simp)]) h1
    · rename_i op T x ho
      simp only [ho, Op.operands] at ha ⊢
      exact hmk (by rw [ha x (by simp)]) h1
    · rename_i s t x ho
      simp only [ho, Op.operands] at ha ⊢
      exact hmk (by rw [ha x (by simp)]) h1
    · rename_i T x y ho
      split at h1
      · rename_i d hd
        simp only [ho, Op.operands] at ha
        rw [← ha x (by simp), ← ha y (by simp)]
        exact ⟨out, vMake_local (hc (by simp [touch, ho]) d ⟨d, hd, .inl rfl⟩) h1, h2⟩
      · cases h1
    · rename_i T x lo hi ho
      simp only [ho, Op.operands] at ha ⊢
      have e1 : lo.map (opnd σ.e) = lo.map (opnd σ'.e) := by
        cases lo with
        | none => rfl
        | some p => simp only [Option.map_some]; rw [ha p (by simp)]
      have e2 : hi.map (opnd σ.e) = hi.map (opnd σ'.e) := by
        cases hi with
        | none => rfl
        | some p => simp only [Option.map_some]; rw [ha p (by simp)]
      exact hmk (by rw [ha x (by simp), e1, e2]) h1
    · rename_i T x f ho
      simp only [ho, Op.operands] at ha ⊢
      exact hmk (by rw [ha x (by simp)]) h1
    · rename_i T x y ho
      simp only [ho, Op.operands] at ha ⊢
      exact hmk (by rw [ha x (by simp), ha y (by simp)]) h1
    · rename_i x i ho
      simp only [ho, Op.operands] at ha ⊢
      exact hmk (by rw [ha x (by simp)]) h1
    · rename_i as ts ho
      simp only [ho, Op.operands, Call.operands] at ha ⊢
      split at h1
      · rename_i x T e1 e2
        have hx : opnd σ.e x = opnd σ'.e x := ha x (by simp [arr_one e1])
        rw [← hx]
        unfold vLen at h1 ⊢
        split at h1
        · cases h1
        · split at h1
          · rename_i nm oo m n hs
            simp only [Option.some.injEq] at h1
            subst h1
            exact ⟨_, rfl, h2⟩
          · rename_i n l hs
            simp only [Option.some.injEq] at h1
            subst h1
            exact ⟨_, rfl, h2⟩
          · rename_i b n c hs
            simp only [Option.some.injEq] at h1
            subst h1
            exact ⟨_, rfl, h2⟩
          · cases h1
      · cases h1
    · rename_i as ts ho
      simp only [ho, Op.operands, Call.operands] at ha ⊢
      exact hmk (by rw [List.map_congr_left fun x hx => ha x (by simp [Array.mem_toList_iff.1 hx])]) h1
    · rename_i as ts ho
      simp only [ho, Op.operands, Call.operands] at ha ⊢
      exact hmk (by rw [List.map_congr_left fun x hx => ha x (by simp [Array.mem_toList_iff.1 hx])]) h1
    · rename_i as ts ho
      have ht0 : touch o = true := by simp [touch, ho]
      simp only [ho, Op.operands, Call.operands] at ha hb ⊢
      split at h1
      · rename_i x y T T' d e1 e2 hd
        have mx : x ∈ (#[] ++ as : Array Operand) := by simp [arr_one e1]
        have my : y ∈ (#[] ++ as : Array Operand) := by simp [arr_one e1]
        cases ht : T == T'
        · simp [ht] at h1
        · simp only [ht, cond_true] at h1 ⊢
          rw [← ha x mx, ← ha y my]
          exact ⟨out, vApp_local (hb ht0 x mx) (hb ht0 y my) (hc ht0 d ⟨d, hd, .inl rfl⟩) h1, h2⟩
      · cases h1
    · rename_i T x y ho
      simp only [ho, Op.operands] at ha ⊢
      exact hmk (by rw [ha x (by simp), ha y (by simp)]) h1
    · cases h1

mutual
theorem inst_within : ∀ (r : RV) (k j : Nat), (inst k r).1.refs j = true → k ≤ j ∧ j < (inst k r).2.2
  | .dat d, k, j, h => by simp [inst, AV.refs] at h
  | .own T n l, k, j, h => by simp only [inst, AV.refs, beq_iff_eq] at h ⊢; omega
  | .agg l, k, j, h => by
    simp only [inst] at h ⊢
    exact insts_within l k j (refsL_mkAgg h)
  | .tup l, k, j, h => by
    simp only [inst, AV.refs] at h ⊢
    exact insts_within l k j h
theorem insts_within : ∀ (l : List RV) (k j : Nat), AV.refsL j (insts k l).1 = true → k ≤ j ∧ j < (insts k l).2.2
  | [], k, j, h => by simp [insts, AV.refsL] at h
  | r :: l, k, j, h => by
    simp only [insts, AV.refsL, Bool.or_eq_true] at h ⊢
    have h1 := inst_mono r k
    have h2 := insts_mono l (inst k r).2.2
    rcases h with h | h
    · have := inst_within r k j h; omega
    · have := insts_within l _ j h; omega
theorem inst_mono : ∀ (r : RV) (k : Nat), k ≤ (inst k r).2.2
  | .dat d, k => Nat.le_refl _
  | .own T n l, k => by simp [inst]
  | .agg l, k => by simp only [inst]; exact insts_mono l k
  | .tup l, k => by simp only [inst]; exact insts_mono l k
theorem insts_mono : ∀ (l : List RV) (k : Nat), k ≤ (insts k l).2.2
  | [], k => Nat.le_refl _
  | r :: l, k => by
    simp only [insts]
    exact Nat.le_trans (inst_mono r k) (insts_mono l _)
end

mutual
theorem inst_names : ∀ (r : RV) (k m : Nat) (x : Option (Bool × Ent)), (m, x) ∈ (inst k r).2.1 → k ≤ m ∧ m < (inst k r).2.2 ∧ ∃ b T n l, x = some (b, .arr T n l)
  | .dat d, k, m, x, h => by simp [inst] at h
  | .own T n l, k, m, x, h => by
    simp only [inst, List.mem_singleton, Prod.mk.injEq] at h ⊢
    exact ⟨by omega, by omega, true, T, n, l, h.2⟩
  | .agg l, k, m, x, h => by simp only [inst] at h ⊢; exact insts_names l k m x h
  | .tup l, k, m, x, h => by simp only [inst] at h ⊢; exact insts_names l k m x h
theorem insts_names : ∀ (l : List RV) (k m : Nat) (x : Option (Bool × Ent)), (m, x) ∈ (insts k l).2.1 → k ≤ m ∧ m < (insts k l).2.2 ∧ ∃ b T n l, x = some (b, .arr T n l)
  | [], k, m, x, h => by simp [insts] at h
  | r :: l, k, m, x, h => by
    simp only [insts, List.mem_append] at h ⊢
    have h1 := inst_mono r k
    have h2 := insts_mono l (inst k r).2.2
    rcases h with h | h
    · obtain ⟨q1, q2, q3⟩ := insts_names l _ m x h; exact ⟨by omega, q2, q3⟩
    · obtain ⟨q1, q2, q3⟩ := inst_names r k m x h; exact ⟨q1, by omega, q3⟩
end

mutual
theorem still_refs : ∀ (r : RV) (j : Nat), (still r).refs j = false
  | .dat d, j => by simp [still, AV.refs]
  | .own T n l, j => by simp [still, AV.refs]
  | .agg l, j => by
    simp only [still]
    cases h : (mkAgg (stills l)).refs j
    · rfl
    · have := refsL_mkAgg h
      rw [stills_refs l j] at this; cases this
  | .tup l, j => by simp only [still, AV.refs]; exact stills_refs l j
theorem stills_refs : ∀ (l : List RV) (j : Nat), AV.refsL j (stills l) = false
  | [], j => by simp [stills, AV.refsL]
  | r :: l, j => by simp [stills, AV.refsL, still_refs r j, stills_refs l j]
end

theorem refsL_get {j : Nat} : ∀ {l : List AV} {i : Nat} {a : AV}, AV.refsL j l = false → l[i]? = some a → a.refs j = false
  | [], i, a, _, h => by simp at h
  | b :: l, 0, a, hl, h => by simp only [AV.refsL, Bool.or_eq_false_iff] at hl; simp at h; subst h; exact hl.1
  | b :: l, i + 1, a, hl, h => by simp only [AV.refsL, Bool.or_eq_false_iff] at hl; exact refsL_get hl.2 (by simpa using h)
theorem refsL_take {j : Nat} : ∀ {l : List AV} (i : Nat), AV.refsL j l = false → AV.refsL j (l.take i) = false
  | [], i, _ => by simp [AV.refsL]
  | b :: l, 0, _ => by simp [AV.refsL]
  | b :: l, i + 1, hl => by simp only [AV.refsL, Bool.or_eq_false_iff, List.take_succ_cons] at hl ⊢; exact ⟨hl.1, refsL_take i hl.2⟩
theorem refsL_drop {j : Nat} : ∀ {l : List AV} (i : Nat), AV.refsL j l = false → AV.refsL j (l.drop i) = false
  | [], i, _ => by simp [AV.refsL]
  | b :: l, 0, h => by simpa using h
  | b :: l, i + 1, hl => by simp only [AV.refsL, Bool.or_eq_false_iff] at hl; simpa using refsL_drop i hl.2
theorem refsL_append {j : Nat} : ∀ {l l' : List AV}, AV.refsL j l = false → AV.refsL j l' = false → AV.refsL j (l ++ l') = false
  | [], l', _, h => by simpa using h
  | b :: l, l', hl, h => by
    simp only [AV.refsL, Bool.or_eq_false_iff, List.cons_append] at hl ⊢
    exact ⟨hl.1, refsL_append hl.2 h⟩
theorem refsL_spl {j o : Nat} {l xs : List AV} (h : AV.refsL j l = false) (hx : AV.refsL j xs = false) : AV.refsL j (spl l o xs) = false :=
  refsL_append (refsL_append (refsL_take _ h) hx) (refsL_drop _ h)
theorem refsL_dat {j : Nat} : ∀ {l : List D}, AV.refsL j (l.map AV.dat) = false
  | [] => rfl
  | d :: l => by simp [AV.refsL, AV.refs, refsL_dat (l := l)]
theorem mkAgg_refs {j : Nat} {l : List AV} (h : AV.refsL j l = false) : (mkAgg l).refs j = false := by
  cases hm : (mkAgg l).refs j
  · rfl
  · rw [refsL_mkAgg hm] at h; cases h
theorem bld_refs {j : Nat} {pl : Nat → Option (Nat × Nat)} : ∀ {ps : List (Nat × AV)} {l l' : List AV}, (∀ p ∈ ps, p.2.refs j = false) → AV.refsL j l = false → bld pl ps l = some l' → AV.refsL j l' = false
  | [], l, l', _, hl, h => by simp only [bld, Option.some.injEq] at h; subst h; exact hl
  | (i, x) :: ps, l, l', hp, hl, h => by
    simp only [bld] at h
    split at h
    · cases h
    · rename_i off size _
      split at h
      · cases h
      · rename_i cs hcs
        cases hb : (cs.length == size && decide (off + size ≤ l.length))
        · simp [hb] at h
        · simp only [hb, cond_true] at h
          exact bld_refs (fun p hp' => hp p (by simp [hp'])) (refsL_spl hl (cellsOf_refs hcs (sp_refs (hp (i, x) (by simp))))) h
end
end Go.Eng
