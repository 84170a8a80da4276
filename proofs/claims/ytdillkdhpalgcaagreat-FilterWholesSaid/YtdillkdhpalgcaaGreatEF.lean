import Derived.Test.YtdillkdhpalgcaaGreatED
set_option linter.unusedSimpArgs false
set_option linter.unusedVariables false
set_option linter.unusedSimpArgs false
set_option linter.unusedVariables false
namespace Go.Eng
open Go.RowKit

def acc (o : Oper) : Option (Bool × Nat × Operand) := match o.op with
  | .load T x => some (false, T, x)
  | .store T x _ => some (true, T, x)
  | _ => none
def adOf : List (Nat × Nat × Nat) → Nat → Option (Nat × Nat)
  | [], _ => none
  | (j, nm, k) :: l, i => bif j == i then some (nm, k) else adOf l i
def isPt (nm : Nat) : AV → Prop
  | .pt m _ => m = nm
  | _ => False
def adOk (P : Program) (A : List (Nat × Nat × Nat)) (o : Oper) (i : Nat) (e : List (Nat × AV)) : Prop := match adOf A i with
  | none => True
  | some (nm, k) => match acc o with
    | some (b, T, x) => (bif decide (k < 1000000) then sp (opnd e x) = .pt nm k ∧ tyOf P T = some (1, false) else isPt nm (sp (opnd e x))) ∧ o.guard = none ∧ (b = true → o.dst = none)
    | none => False

section
variable {P : Program} {Γ : FuncId → List D → RV} {fz : List Nat} {L : List Oper} {σ σ' : St} {o : Oper} {g : Bool} {ops : Array Oper} {A : List (Nat × Nat × Nat)}

theorem spl_set {c : List AV} {k : Nat} {v : AV} (h : k < c.length) : spl c k [v] = c.set k v := by
  rw [List.set_eq_take_append_cons_drop, if_pos h]; simp [spl]
theorem ld_out {T : Nat} {x : Operand} {nm k : Nat} {u : OutD} (ho : o.op = .load T x) (hp : sp (opnd σ.e x) = .pt nm k) (ht : tyOf P T = some (1, false)) :
    outD P Γ fz o g σ = some u ↔ ∃ g' T' c a, geth σ.h nm = some (g', .box T' c) ∧ c[k]? = some a ∧ u = ⟨a, [], pk g (opnd σ.e x) ∧ (g = true → g' = true)⟩ := by
  simp only [outD, outOf, callOf, cloOf, ho, opV, vLoad, ht, hp, Option.map_eq_some_iff]
  constructor
  · rintro ⟨out, h, rfl⟩
    split at h
    · rename_i g' T' c hh
      have e : rdA 1 false (c.drop k) = c[k]? := by simp [rdA]
      rw [e] at h
      split at h
      · rename_i r hr
        simp only [Option.some.injEq] at h; subst h
        exact ⟨g', T', c, r, hh, hr, rfl⟩
      · cases h
    · cases h
  · rintro ⟨g', T', c, a, h1, h2, rfl⟩
    have e : rdA 1 false (c.drop k) = c[k]? := by simp [rdA]
    exact ⟨⟨a, [], pk g (opnd σ.e x) ∧ (g = true → g' = true), True⟩, by rw [h1]; simp only [e, h2], rfl⟩
theorem st_out {T : Nat} {x y : Operand} {nm k : Nat} {u : OutD} (ho : o.op = .store T x y) (hp : sp (opnd σ.e x) = .pt nm k) (ht : tyOf P T = some (1, false)) :
    outD P Γ fz o g σ = some u ↔ ∃ g' T' c v, geth σ.h nm = some (g', .box T' c) ∧ k < c.length ∧ cellsOf (sp (opnd σ.e y)) = some [v] ∧ u = ⟨.un, [(nm, some (true, .box T' (c.set k v)))], pk g (opnd σ.e x) ∧ pk g (opnd σ.e y) ∧ g' = true⟩ := by
  simp only [outD, outOf, callOf, cloOf, ho, opV, vStore, ht, hp, Option.map_eq_some_iff]
  constructor
  · rintro ⟨out, h, rfl⟩
    cases hc : cellsOf (sp (opnd σ.e y)) with
    | none => simp only [hc] at h; cases h
    | some cs =>
      simp only [hc] at h
      cases hl : cs.length == 1
      · simp [hl] at h
      · simp only [hl, cond_true] at h
        simp only [beq_iff_eq] at hl
        obtain ⟨v, rfl⟩ := List.length_eq_one_iff.1 hl
        split at h
        · rename_i g' T' c hh
          cases hd : decide ((k + 1) ≤ c.length)
          · simp [hd] at h
          · simp only [hd, cond_true, Option.some.injEq] at h; subst h
            simp only [decide_eq_true_eq] at hd
            exact ⟨g', T', c, v, hh, by omega, rfl, by simp only [spl_set (show k < c.length by omega)]⟩
        · cases h
  · rintro ⟨g', T', c, v, h1, h2, h3, rfl⟩
    refine ⟨⟨.un, [(nm, some (true, .box T' (spl c k [v])))], pk g (opnd σ.e x) ∧ pk g (opnd σ.e y) ∧ g' = true, True⟩, ?_, by simp only [spl_set h2]⟩
    have hd : decide ((k + 1) ≤ c.length) = true := by simp; omega
    simp only [h1, h3, hd, cond_true, List.length_singleton, beq_self_eq_true]

theorem adOk_congr {i : Nat} {e e' : List (Nat × AV)} (he : ∀ z ∈ o.op.operands, opnd e z = opnd e' z) (h : adOk P A o i e) : adOk P A o i e' := by
  unfold adOk at h ⊢
  split
  · trivial
  · rename_i nm k hA
    rw [hA] at h
    simp only at h
    unfold acc at h ⊢
    split at h
    · rename_i b T x hacc
      split at hacc
      · rename_i ho
        simp only [Option.some.injEq, Prod.mk.injEq] at hacc
        obtain ⟨rfl, rfl, rfl⟩ := hacc
        rw [he _ (by rw [ho]; simp [Op.operands])] at h
        simpa [ho] using h
      · rename_i ho
        simp only [Option.some.injEq, Prod.mk.injEq] at hacc
        obtain ⟨rfl, rfl, rfl⟩ := hacc
        rw [he _ (by rw [ho]; simp [Op.operands])] at h
        simpa [ho] using h
      · cases hacc
    · exact h.elim
theorem adOk_pt {i nm k : Nat} {e : List (Nat × AV)} (hA : adOf A i = some (nm, k)) (h : adOk P A o i e) : o.guard = none ∧
    ((∃ T x j, o.op = .load T x ∧ sp (opnd e x) = .pt nm j) ∨ (∃ T x y j, o.op = .store T x y ∧ sp (opnd e x) = .pt nm j ∧ o.dst = none)) := by
  unfold adOk at h
  rw [hA] at h
  simp only at h
  split at h
  · rename_i b T x hacc
    obtain ⟨h1, h2, h3⟩ := h
    have hj : ∃ j, sp (opnd e x) = .pt nm j := by
      cases hd : decide (k < 1000000)
      · rw [hd, cond_false] at h1
        cases hs : sp (opnd e x) with
        | pt m j => rw [hs] at h1; simp only [isPt] at h1; subst h1; exact ⟨j, rfl⟩
        | _ => rw [hs] at h1; exact h1.elim
      · rw [hd, cond_true] at h1; exact ⟨k, h1.1⟩
    obtain ⟨j, hj⟩ := hj
    unfold acc at hacc
    split at hacc
    · rename_i ho
      simp only [Option.some.injEq, Prod.mk.injEq] at hacc
      obtain ⟨rfl, rfl, rfl⟩ := hacc
      exact ⟨h2, .inl ⟨_, _, j, ho, hj⟩⟩
    · rename_i ho
      simp only [Option.some.injEq, Prod.mk.injEq] at hacc
      obtain ⟨rfl, rfl, rfl⟩ := hacc
      exact ⟨h2, .inr ⟨_, _, _, j, ho, hj, h3 rfl⟩⟩
    · cases hacc
  · exact h.elim
theorem adOk_cases {i nm k : Nat} {e : List (Nat × AV)} (hk : k < 1000000) (hA : adOf A i = some (nm, k)) (h : adOk P A o i e) : o.guard = none ∧
    ((∃ T x, o.op = .load T x ∧ sp (opnd e x) = .pt nm k ∧ tyOf P T = some (1, false)) ∨ (∃ T x y, o.op = .store T x y ∧ sp (opnd e x) = .pt nm k ∧ tyOf P T = some (1, false) ∧ o.dst = none)) := by
  unfold adOk at h
  rw [hA] at h
  simp only [hk, decide_true, cond_true] at h
  split at h
  · rename_i b T x hacc
    obtain ⟨⟨h0, h1⟩, h2, h3⟩ := h
    unfold acc at hacc
    split at hacc
    · rename_i ho
      simp only [Option.some.injEq, Prod.mk.injEq] at hacc
      obtain ⟨rfl, rfl, rfl⟩ := hacc
      exact ⟨h2, .inl ⟨_, _, ho, h0, h1⟩⟩
    · rename_i ho
      simp only [Option.some.injEq, Prod.mk.injEq] at hacc
      obtain ⟨rfl, rfl, rfl⟩ := hacc
      exact ⟨h2, .inr ⟨_, _, _, ho, h0, h1, h3 rfl⟩⟩
    · cases hacc
  · exact h.elim
theorem refs_of_sp {k : Nat} : ∀ {a : AV}, a.refs k = true → (sp a).refs k = true
  | .gd _ x, h => by simp only [sp]; simp only [AV.refs] at h; exact refs_of_sp h
  | .pin _ x, h => by simp only [sp]; simp only [AV.refs] at h; exact refs_of_sp h
  | .un, h | .dat _, h | .agg _, h | .tup _, h | .rp _, h | .pt .., h | .ep .., h | .vw .., h | .cl .., h => by simpa only [sp] using h
theorem outD_ls {nm : Nat} (hc : (∃ T x j, o.op = .load T x ∧ sp (opnd σ.e x) = .pt nm j) ∨ (∃ T x y j, o.op = .store T x y ∧ sp (opnd σ.e x) = .pt nm j ∧ o.dst = none))
    (he : ∀ z ∈ o.op.operands, opnd σ'.e z = opnd σ.e z) (hh : geth σ'.h nm = geth σ.h nm) : outD P Γ fz o g σ' = outD P Γ fz o g σ := by
  rcases hc with ⟨T, x, j, ho, hp⟩ | ⟨T, x, y, j, ho, hp, _⟩
  · have e1 := he x (by rw [ho]; simp [Op.operands])
    simp only [outD, outOf, callOf, cloOf, ho, opV]
    rw [e1, vLoad_local (h := σ'.h) (h' := σ.h) fun k hk => ?_]
    have := refs_of_sp hk
    rw [hp] at this
    simp only [AV.refs, beq_iff_eq] at this
    subst this; exact hh
  · have e1 := he x (by rw [ho]; simp [Op.operands])
    have e2 := he y (by rw [ho]; simp [Op.operands])
    simp only [outD, outOf, callOf, cloOf, ho, opV]
    rw [e1, e2, vStore_local (h := σ'.h) (h' := σ.h) fun k hk => ?_]
    have := refs_of_sp hk
    rw [hp] at this
    simp only [AV.refs, beq_iff_eq] at this
    subst this; exact hh
theorem outD_hp {nm : Nat} {u : OutD} (hc : (∃ T x j, o.op = .load T x ∧ sp (opnd σ.e x) = .pt nm j) ∨ (∃ T x y j, o.op = .store T x y ∧ sp (opnd σ.e x) = .pt nm j ∧ o.dst = none))
    (h : outD P Γ fz o g σ = some u) : u.hp = [] ∨ ∃ z, u.hp = [(nm, some z)] := by
  rcases hc with ⟨T, x, j, ho, hp⟩ | ⟨T, x, y, j, ho, hp, _⟩
  · simp only [outD, outOf, callOf, cloOf, ho, opV, vLoad, hp, Option.map_eq_some_iff] at h
    obtain ⟨out, h, rfl⟩ := h
    left
    split at h
    · cases h
    · split at h
      · split at h
        · simp only [Option.some.injEq] at h; subst h; rfl
        · cases h
      · cases h
  · simp only [outD, outOf, callOf, cloOf, ho, opV, vStore, hp, Option.map_eq_some_iff] at h
    obtain ⟨out, h, rfl⟩ := h
    right
    split at h
    · rename_i sz ag cs h1 h2
      cases hl : cs.length == sz
      · rw [hl] at h; cases h
      · rw [hl, cond_true] at h
        split at h
        · rename_i g' T' c hg
          cases hd : decide ((j + sz) ≤ c.length)
          · rw [hd] at h; cases h
          · rw [hd, cond_true] at h
            simp only [Option.some.injEq] at h; subst h; exact ⟨_, rfl⟩
        · cases h
    · cases h
theorem stepD_plain {x : OutD} (hg : o.guard = none) (hx : outD P Γ fz o true σ = some x) : stepD P Γ L fz o σ = some (⟨putA o.dst x.av σ.e, x.hp ++ σ.h⟩, true = true → x.side) := by
  have := stepD_mk (L := L) (g := true) (by simp only [gOf, hg]) hx
  simpa only [wr, hw, hg] using this
theorem stepD_un {τ : St} {p : Prop} (hg : o.guard = none) (h : stepD P Γ L fz o σ = some (τ, p)) : ∃ x, outD P Γ fz o true σ = some x ∧ τ = ⟨putA o.dst x.av σ.e, x.hp ++ σ.h⟩ ∧ p = (true = true → x.side) := by
  obtain ⟨g, x, h1, h2, h3, h4⟩ := stepD_spec h
  simp only [gOf, hg, Option.some.injEq] at h1
  subst h1
  simp only [wr, hw, hg] at h3
  exact ⟨x, h2, h3, h4⟩
theorem fresh_step {x : OutD} {k : Nat} (hd : o.dst = none) (hx : outD P Γ fz o true σ = some x) (hf : fresh k σ = true) : fresh k ⟨putA o.dst x.av σ.e, x.hp ++ σ.h⟩ = true := by
  obtain ⟨out, ho, e1, e2, _⟩ := outD_some hx
  have := outOf_refs ho hf (fun ⟨d, h, _⟩ => by rw [hd] at h; cases h)
  rw [fresh_put, hd, e2, this.2]
  simpa using hf
theorem geth_one {nm k : Nat} {x : Bool × Ent} {h : Hp} : geth ([(nm, some x)] ++ h) k = if nm = k then some x else geth h k := by
  by_cases e : nm = k
  · subst e; simp [geth]
  · have : (nm == k) = false := by simpa using e
    simp [geth, this, e]

theorem stepD_sep {x y : Oper} {σ1 σ2 : St} {p q : Prop} {i j nm k nm' k' : Nat} (hap : x.apart ops y = true) (hi : adOf A i = some (nm, k)) (hj : adOf A j = some (nm', k')) (hne : ¬ (nm = nm' ∧ (k = k' ∨ 1000000 ≤ k ∨ 1000000 ≤ k')))
    (hx : adOk P A x i σ.e) (hy : adOk P A y j σ1.e) (h1 : stepD P Γ L fz x σ = some (σ1, p)) (hp : p) (h2 : stepD P Γ L fz y σ1 = some (σ2, q)) (hq : q) :
    ∃ σ1' σ2' p' q', stepD P Γ L fz y σ = some (σ1', q') ∧ q' ∧ stepD P Γ L fz x σ1' = some (σ2', p') ∧ p' ∧ Eqv σ2 σ2' ∧ adOk P A y j σ.e ∧ adOk P A x i σ1'.e := by
  obtain ⟨a1, a2, a3⟩ := Oper.apart_spec hap
  have gx := (adOk_pt hi hx).1
  have gy := (adOk_pt hj hy).1
  obtain ⟨u, e1, rfl, rfl⟩ := stepD_un gx h1
  obtain ⟨u', e2, rfl, rfl⟩ := stepD_un gy h2
  have hop : ∀ z ∈ y.op.operands, opnd (putA x.dst u.av σ.e) z = opnd σ.e z := fun z hz => opnd_congr z fun s hs => by
    rw [get_putA, if_neg fun hd => a1 s hd (mem_looks hz hs)]
  have hop' : ∀ (b : AV), ∀ z ∈ x.op.operands, opnd (putA y.dst b σ.e) z = opnd σ.e z := fun b z hz => opnd_congr z fun s hs => by
    rw [get_putA, if_neg fun hd => a3 s hd (mem_looks hz hs)]
  have hy' : adOk P A y j σ.e := adOk_congr hop hy
  have hxs : ∀ b h, adOk P A x i (⟨putA y.dst b σ.e, h⟩ : St).e := fun b h => adOk_congr (fun z hz => (hop' b z hz).symm) hx
  have henv : ∀ (b b' : AV) s, get (putA y.dst b (putA x.dst b' σ.e)) s = get (putA x.dst b' (putA y.dst b σ.e)) s := by
    intro b b' s
    simp only [get_putA]
    by_cases hs : y.dst = some s
    · have : x.dst ≠ some s := fun hd => a2 s hd hs
      simp [hs, this]
    · simp [hs]
  by_cases hnn : nm ≠ nm'
  · have cx := (adOk_pt hi hx).2
    have cy := (adOk_pt hj hy').2
    have p1 := outD_hp cx e1
    have hgy : geth (u.hp ++ σ.h) nm' = geth σ.h nm' := by
      rcases p1 with e | ⟨z, e⟩
      · rw [e]; rfl
      · rw [e, geth_one, if_neg hnn]
    have f1 : outD P Γ fz y true σ = some u' := by rw [← e2]; exact (outD_ls (σ := σ) (σ' := ⟨putA x.dst u.av σ.e, u.hp ++ σ.h⟩) cy hop hgy).symm
    have p2 := outD_hp cy f1
    have hgx : geth (u'.hp ++ σ.h) nm = geth σ.h nm := by
      rcases p2 with e | ⟨z, e⟩
      · rw [e]; rfl
      · rw [e, geth_one, if_neg (fun e => hnn e.symm)]
    have f2 : outD P Γ fz x true ⟨putA y.dst u'.av σ.e, u'.hp ++ σ.h⟩ = some u := by rw [← e1]; exact outD_ls (σ := σ) (σ' := ⟨putA y.dst u'.av σ.e, u'.hp ++ σ.h⟩) cx (hop' _) hgx
    refine ⟨_, _, _, _, stepD_plain gy f1, hq, stepD_plain gx f2, hp, ⟨henv _ _, fun κ => ?_, fun κ => ?_⟩, hy', hxs _ _⟩
    · rcases p1 with e | ⟨z, e⟩ <;> rcases p2 with e' | ⟨z', e'⟩ <;> simp only [e, e', List.nil_append]
      rw [geth_one, geth_one, geth_one, geth_one]
      by_cases ek : nm = κ
      · have : ¬ nm' = κ := fun e => hnn (ek.trans e.symm)
        simp only [ek, this, if_true, if_false]
      · simp only [ek, if_false]
    · simp only [fresh_put]; ac_rfl
  replace hp := hp rfl
  replace hq := hq rfl
  have hn0 : nm = nm' := Decidable.of_not_not hnn
  have hk1 : k < 1000000 := by
    by_cases h : k < 1000000
    · exact h
    · exact absurd ⟨hn0, .inr (.inl (by omega))⟩ hne
  have hk2 : k' < 1000000 := by
    by_cases h : k' < 1000000
    · exact h
    · exact absurd ⟨hn0, .inr (.inr (by omega))⟩ hne
  replace hne : ¬ (nm = nm' ∧ k = k') := fun h => hne ⟨h.1, .inl h.2⟩
  obtain ⟨_, cx⟩ := adOk_cases hk1 hi hx
  obtain ⟨_, cy⟩ := adOk_cases hk2 hj hy
  rcases cx with ⟨T, px, ox, sx, tx⟩ | ⟨T, px, vx, ox, sx, tx, dx⟩
  · rcases cy with ⟨T2, py, oy, sy, ty⟩ | ⟨T2, py, vy, oy, sy, ty, dy⟩
    · -- two loads
      rw [hop py (by rw [oy]; simp [Op.operands])] at sy
      obtain ⟨g1, T1, c1, w1, b1, b2, rfl⟩ := (ld_out ox sx tx).1 e1
      obtain ⟨g2, T3, c2, w2, d1, d2, rfl⟩ := (ld_out (σ := ⟨putA x.dst w1 σ.e, [] ++ σ.h⟩) oy (by rw [hop py (by rw [oy]; simp [Op.operands])]; exact sy) ty).1 e2
      simp only [List.nil_append] at d1
      have f1 := (ld_out (P := P) (Γ := Γ) (fz := fz) (g := true) (σ := σ) oy sy ty).2 ⟨g2, T3, c2, w2, d1, d2, rfl⟩
      have f2 := (ld_out (P := P) (Γ := Γ) (fz := fz) (g := true) (σ := ⟨putA y.dst w2 σ.e, [] ++ σ.h⟩) ox (by rw [hop' w2 px (by rw [ox]; simp [Op.operands])]; exact sx) tx).2 ⟨g1, T1, c1, w1, by simpa using b1, b2, rfl⟩
      refine ⟨_, _, _, _, stepD_plain gy f1, fun _ => ⟨by rw [← hop py (by rw [oy]; simp [Op.operands])]; exact hq.1, hq.2⟩, stepD_plain gx f2, fun _ => ⟨by rw [hop' w2 px (by rw [ox]; simp [Op.operands])]; exact hp.1, hp.2⟩, ⟨henv _ _, fun _ => rfl, fun κ => ?_⟩, hy', hxs _ _⟩
      simp only [fresh_put]; ac_rfl
    · -- a load, then a store
      have mpy : py ∈ y.op.operands := by rw [oy]; simp [Op.operands]
      have mvy : vy ∈ y.op.operands := by rw [oy]; simp [Op.operands]
      have mpx : px ∈ x.op.operands := by rw [ox]; simp [Op.operands]
      rw [hop py mpy] at sy
      obtain ⟨g1, T1, c1, w1, b1, b2, rfl⟩ := (ld_out ox sx tx).1 e1
      obtain ⟨g2, T3, c2, v, d1, d2, d3, rfl⟩ := (st_out (σ := ⟨putA x.dst w1 σ.e, [] ++ σ.h⟩) oy (by rw [hop py mpy]; exact sy) ty).1 e2
      simp only [List.nil_append] at d1
      rw [hop vy mvy] at d3
      have f1 := (st_out (P := P) (Γ := Γ) (fz := fz) (g := true) (σ := σ) oy sy ty).2 ⟨g2, T3, c2, v, d1, d2, d3, rfl⟩
      simp only at hq
      rw [hop py mpy, hop vy mvy] at hq
      have key : ∃ g3 T4 c3, geth ([(nm', some (true, .box T3 (c2.set k' v)))] ++ σ.h) nm = some (g3, .box T4 c3) ∧ c3[k]? = some w1 ∧ (g1 = true → g3 = true) := by
        rw [geth_one]
        by_cases en : nm' = nm
        · subst en
          rw [b1] at d1
          simp only [Option.some.injEq, Prod.mk.injEq, Ent.box.injEq] at d1
          obtain ⟨rfl, rfl, rfl⟩ := d1
          refine ⟨true, T1, c1.set k' v, by simp, ?_, fun _ => rfl⟩
          rw [List.getElem?_set_ne (fun e => hne ⟨rfl, e.symm⟩)]; exact b2
        · rw [if_neg en]; exact ⟨g1, T1, c1, b1, b2, fun h => h⟩
      obtain ⟨g3, T4, c3, k1, k2, k3⟩ := key
      have f2 := (ld_out (P := P) (Γ := Γ) (fz := fz) (g := true) (σ := ⟨putA y.dst .un σ.e, [(nm', some (true, .box T3 (c2.set k' v)))] ++ σ.h⟩) ox (by rw [hop' _ px mpx]; exact sx) tx).2 ⟨g3, T4, c3, w1, k1, k2, rfl⟩
      refine ⟨_, _, _, _, stepD_plain gy f1, fun _ => hq, stepD_plain gx f2, fun _ => ⟨by rw [hop' _ px mpx]; exact hp.1, fun h => k3 (hp.2 h)⟩, ⟨henv _ _, fun _ => rfl, fun κ => ?_⟩, hy', hxs _ _⟩
      simp only [fresh_put]; ac_rfl
  · rcases cy with ⟨T2, py, oy, sy, ty⟩ | ⟨T2, py, vy, oy, sy, ty, dy⟩
    · -- a store, then a load
      have mpy : py ∈ y.op.operands := by rw [oy]; simp [Op.operands]
      have mvx : vx ∈ x.op.operands := by rw [ox]; simp [Op.operands]
      have mpx : px ∈ x.op.operands := by rw [ox]; simp [Op.operands]
      rw [hop py mpy] at sy
      obtain ⟨g1, T1, c1, v, b1, b2, b3, rfl⟩ := (st_out ox sx tx).1 e1
      obtain ⟨g2, T3, c2, w2, d1, d2, rfl⟩ := (ld_out (σ := ⟨putA x.dst .un σ.e, [(nm, some (true, .box T1 (c1.set k v)))] ++ σ.h⟩) oy (by rw [hop py mpy]; exact sy) ty).1 e2
      simp only at hq hp
      rw [hop py mpy] at hq
      have key : ∃ g3 T4 c3, geth σ.h nm' = some (g3, .box T4 c3) ∧ c3[k']? = some w2 ∧ g3 = true := by
        simp only at d1
        rw [geth_one] at d1
        by_cases en : nm = nm'
        · subst en
          simp only [if_true, Option.some.injEq, Prod.mk.injEq, Ent.box.injEq] at d1
          obtain ⟨rfl, rfl, rfl⟩ := d1
          refine ⟨g1, T1, c1, b1, ?_, hp.2.2⟩
          rw [List.getElem?_set_ne (fun e => hne ⟨rfl, e⟩)] at d2; exact d2
        · rw [if_neg en] at d1; exact ⟨g2, T3, c2, d1, d2, hq.2 trivial⟩
      obtain ⟨g3, T4, c3, k1, k2, k3⟩ := key
      have f1 := (ld_out (P := P) (Γ := Γ) (fz := fz) (g := true) (σ := σ) oy sy ty).2 ⟨g3, T4, c3, w2, k1, k2, rfl⟩
      have f2 := (st_out (P := P) (Γ := Γ) (fz := fz) (g := true) (σ := ⟨putA y.dst w2 σ.e, [] ++ σ.h⟩) ox (by rw [hop' _ px mpx]; exact sx) tx).2 ⟨g1, T1, c1, v, by simpa using b1, b2, by rw [hop' _ vx mvx]; exact b3, rfl⟩
      refine ⟨_, _, _, _, stepD_plain gy f1, fun _ => ⟨hq.1, fun _ => k3⟩, stepD_plain gx f2, fun _ => ⟨by rw [hop' _ px mpx]; exact hp.1, by rw [hop' _ vx mvx]; exact hp.2.1, hp.2.2⟩, ⟨henv _ _, fun _ => rfl, fun κ => ?_⟩, hy', hxs _ _⟩
      simp only [fresh_put]; ac_rfl
    · -- two stores
      have mpy : py ∈ y.op.operands := by rw [oy]; simp [Op.operands]
      have mvy : vy ∈ y.op.operands := by rw [oy]; simp [Op.operands]
      have mvx : vx ∈ x.op.operands := by rw [ox]; simp [Op.operands]
      have mpx : px ∈ x.op.operands := by rw [ox]; simp [Op.operands]
      rw [hop py mpy] at sy
      obtain ⟨g1, T1, c1, v, b1, b2, b3, rfl⟩ := (st_out ox sx tx).1 e1
      have e2c := e2
      obtain ⟨g2, T3, c2, v', d1, d2, d3, rfl⟩ := (st_out (σ := ⟨putA x.dst .un σ.e, [(nm, some (true, .box T1 (c1.set k v)))] ++ σ.h⟩) oy (by rw [hop py mpy]; exact sy) ty).1 e2
      simp only at hq hp
      rw [hop py mpy, hop vy mvy] at hq
      rw [hop vy mvy] at d3
      simp only at d1
      rw [geth_one] at d1
      by_cases en : nm = nm'
      · subst en
        simp only [if_true, Option.some.injEq, Prod.mk.injEq, Ent.box.injEq] at d1
        obtain ⟨rfl, rfl, rfl⟩ := d1
        have hk : k ≠ k' := fun e => hne ⟨rfl, e⟩
        have f1 := (st_out (P := P) (Γ := Γ) (fz := fz) (g := true) (σ := σ) oy sy ty).2 ⟨g1, T1, c1, v', b1, by simpa using d2, d3, rfl⟩
        have f2 := (st_out (P := P) (Γ := Γ) (fz := fz) (g := true) (σ := ⟨putA y.dst .un σ.e, [(nm, some (true, .box T1 (c1.set k' v')))] ++ σ.h⟩) ox (by rw [hop' _ px mpx]; exact sx) tx).2 ⟨true, T1, c1.set k' v', v, by simp only; rw [geth_one]; simp, by simpa using b2, by rw [hop' _ vx mvx]; exact b3, rfl⟩
        refine ⟨_, _, _, _, stepD_plain gy f1, fun _ => ⟨hq.1, hq.2.1, hp.2.2⟩, stepD_plain gx f2, fun _ => ⟨by rw [hop' _ px mpx]; exact hp.1, by rw [hop' _ vx mvx]; exact hp.2.1, rfl⟩, ⟨henv _ _, fun κ => ?_, fun κ => ?_⟩, hy', hxs _ _⟩
        · simp only
          rw [geth_one, geth_one, geth_one, geth_one]
          by_cases ek : nm = κ
          · simp only [ek, if_true]
            rw [List.set_comm v v' hk]
          · simp only [ek, if_false]
        · cases hf : fresh κ σ
          · simp only [fresh_put, hf, Bool.and_false]
          · rw [fresh_step dy e2c (fresh_step dx e1 hf), fresh_step dx f2 (fresh_step dy f1 hf)]
      · rw [if_neg en] at d1
        have f1 := (st_out (P := P) (Γ := Γ) (fz := fz) (g := true) (σ := σ) oy sy ty).2 ⟨g2, T3, c2, v', d1, d2, d3, rfl⟩
        have f2 := (st_out (P := P) (Γ := Γ) (fz := fz) (g := true) (σ := ⟨putA y.dst .un σ.e, [(nm', some (true, .box T3 (c2.set k' v')))] ++ σ.h⟩) ox (by rw [hop' _ px mpx]; exact sx) tx).2 ⟨g1, T1, c1, v, by simp only; rw [geth_one, if_neg (fun e => en e.symm)]; exact b1, b2, by rw [hop' _ vx mvx]; exact b3, rfl⟩
        refine ⟨_, _, _, _, stepD_plain gy f1, fun _ => hq, stepD_plain gx f2, fun _ => ⟨by rw [hop' _ px mpx]; exact hp.1, by rw [hop' _ vx mvx]; exact hp.2.1, hp.2.2⟩, ⟨henv _ _, fun κ => ?_, fun κ => ?_⟩, hy', hxs _ _⟩
        · simp only
          rw [geth_one, geth_one, geth_one, geth_one]
          by_cases ek : nm = κ
          · have : ¬ nm' = κ := fun e => en (ek.trans e.symm)
            simp only [ek, this, if_true, if_false]
          · simp only [ek, if_false]
        · simp only [fresh_put]; ac_rfl
end
def sepA (A : List (Nat × Nat × Nat)) (i j : Nat) : Bool := match adOf A i, adOf A j with
  | some (nm, k), some (nm', k') => !(nm == nm' && (k == k' || decide (1000000 ≤ k) || decide (1000000 ≤ k')))
  | _, _ => false
def okPairA (ops : Array Oper) (A : List (Nat × Nat × Nat)) (i j : Nat) (x y : Oper) : Bool := okPair ops x y || (x.apart ops y && sepA A i j)
def LxA (P : Program) (Γ : FuncId → List D → RV) (ops : Array Oper) (fz : List Nat) (A : List (Nat × Nat × Nat)) : List Nat → St → St → Prop
  | [], σ, τ => τ = σ
  | i :: l, σ, τ => ∃ o σ' p, ops[i]? = some o ∧ stepD P Γ ops.toList fz o σ = some (σ', p) ∧ p ∧ adOk P A o i σ.e ∧ LxA P Γ ops fz A l σ' τ
def stepQA (P : Program) (Γ : FuncId → List D → RV) (A : List (Nat × Nat × Nat)) (L : List Oper) (fz : List Nat) (k : Nat) (o : Oper) (r : Rn) : Option Rn :=
  match stepQ P Γ L fz o r with
  | some r' => some ⟨r'.σ, (true, adOk P A o k r.σ.e) :: r'.its⟩
  | none => none
def runQA (P : Program) (Γ : FuncId → List D → RV) (A : List (Nat × Nat × Nat)) (L : List Oper) (fz : List Nat) : Nat → List Oper → Option Rn → Option Rn
  | _, _, none => none
  | _, [], some r => some r
  | k, o :: os, some r => runQA P Γ A L fz (k + 1) os (stepQA P Γ A L fz k o r)
def chkIA (ops : Array Oper) (A : List (Nat × Nat × Nat)) (m : List Nat) (i : Nat) (oi : Oper) : Bool :=
  (edg oi).all (fun t => decide (t < i)) && (List.range i).all fun j =>
    bif (m.getD i 0).testBit j then (edg oi).any (fun t => t == j || (decide (j < t) && (m.getD t 0).testBit j))
    else match ops[j]? with
      | some oj => okPairA ops A j i oj oi
      | none => true
def chkDA (n : Nat) (ops : Array Oper) (A : List (Nat × Nat × Nat)) (m : List Nat) : Bool :=
  decide (n ≤ 10000) && ops.toList.all (fun o => inB n o.dst) && (List.range ops.size).all fun i => match ops[i]? with
    | some oi => chkIA ops A m i oi
    | none => true

section
variable {P : Program} {Γ : FuncId → List D → RV} {fz : List Nat} {L : List Oper} {σ σ' : St} {o : Oper} {g : Bool} {ops : Array Oper} {A : List (Nat × Nat × Nat)}
theorem runQA_none : ∀ {os : List Oper} {k : Nat}, runQA P Γ A L fz k os none = none
  | [], _ => rfl
  | _ :: _, _ => rfl
theorem runQA_Lx {K : St → Prop} : ∀ (os : List Oper) (k : Nat) (r : Rn), ops.toList.drop k = os → Hold (runQA P Γ A ops.toList fz k os (some r)) K →
    fin r.its (∃ τ, LxA P Γ ops fz A (List.range' k os.length) r.σ τ ∧ K τ)
  | [], k, r, _, h => by
    simp only [runQA, Hold] at h
    exact fin_mono (fun hK => ⟨_, rfl, hK⟩) h
  | o :: os, k, r, hk, h => by
    simp only [runQA, stepQA] at h
    cases hs : stepQ P Γ ops.toList fz o r with
    | none => simp only [hs] at h; rw [runQA_none] at h; exact h.elim
    | some r' =>
      simp only [hs] at h
      obtain ⟨p, hD, q, hi, hqp⟩ := stepQ_D hs
      have hk' : ops.toList.drop (k + 1) = os := by rw [← List.drop_drop, hk]; rfl
      have ho : ops[k]? = some o := by
        have := congrArg (·[0]?) hk
        simpa using this
      have ih := runQA_Lx os (k + 1) ⟨r'.σ, (true, adOk P A o k r.σ.e) :: r'.its⟩ hk' h
      simp only [hi, fin] at ih
      refine fin_mono (fun hh => ?_) ih
      obtain ⟨hq, hA, τ, hl, hK⟩ := hh
      exact ⟨τ, by simp only [List.length_cons, List.range'_succ, LxA]; exact ⟨o, r'.σ, p, ho, hD, hqp hq, hA, hl⟩, hK⟩
theorem Lx_congrA {τ : St} : ∀ {l : List Nat} {σ σ' : St}, Eqv σ σ' → LxA P Γ ops fz A l σ τ → ∃ τ', Eqv τ τ' ∧ LxA P Γ ops fz A l σ' τ'
  | [], σ, σ', hE, h => by simp only [LxA] at h; subst h; exact ⟨σ', hE, rfl⟩
  | i :: l, σ, σ', hE, h => by
    simp only [LxA] at h
    obtain ⟨o, σ1, p, ho, hs, hp, hA, hl⟩ := h
    obtain ⟨σ1', hs', hE'⟩ := stepD_congr hE hs
    obtain ⟨τ', h1, h2⟩ := Lx_congrA hE' hl
    exact ⟨τ', h1, o, σ1', p, ho, hs', hp, adOk_congr (fun z _ => opnd_congr z fun s _ => hE.e s) hA, h2⟩
theorem okPair_apart {x y : Oper} (h : okPair ops x y = true) : x.apart ops y = true := by
  simp only [okPair, Bool.and_eq_true] at h; exact h.1.1
theorem Lx_takeA {n : Nat} {τ : St} {i : Nat} {oi : Oper} {post : List Nat} (hn : n ≤ 10000) (hin : ∀ (j : Nat) (o : Oper), ops[j]? = some o → inB n o.dst = true) (hi : ops[i]? = some oi) :
    ∀ {pre : List Nat} {σ : St}, (∀ j ∈ pre, ∀ oj, ops[j]? = some oj → okPairA ops A j i oj oi = true) → LxA P Γ ops fz A (pre ++ i :: post) σ τ →
      ∃ σ' p τ', stepD P Γ ops.toList fz oi σ = some (σ', p) ∧ p ∧ adOk P A oi i σ.e ∧ Eqv τ τ' ∧ LxA P Γ ops fz A (pre ++ post) σ' τ'
  | [], σ, _, h => by
    simp only [List.nil_append, LxA] at h
    obtain ⟨o, σ', p, ho, hs, hp, hA, hl⟩ := h
    rw [hi] at ho; cases ho
    exact ⟨σ', p, τ, hs, hp, hA, .refl _, hl⟩
  | j :: pre, σ, hok, h => by
    simp only [List.cons_append, LxA] at h
    obtain ⟨o, σ1, q, ho, hs, hq, hAj, hl⟩ := h
    obtain ⟨σ2, p, τ', h1, h2, hAi, h3, h4⟩ := Lx_takeA hn hin hi (pre := pre) (fun j hj => hok j (by simp [hj])) hl
    have hpair := hok j (by simp) o ho
    simp only [okPairA, Bool.or_eq_true] at hpair
    rcases hpair with hpair | hpair
    · obtain ⟨σ1', σ2', c1, c2, c3⟩ := stepD_comm hn (hin _ _ ho) (hin _ _ hi) hpair hs h1
      obtain ⟨τ'', d1, d2⟩ := Lx_congrA c3 h4
      obtain ⟨a1, a2, a3⟩ := Oper.apart_spec (okPair_apart hpair)
      obtain ⟨g1, u1, _, _, e1, _⟩ := stepD_spec hs
      obtain ⟨g2, u2, _, _, e2, _⟩ := stepD_spec c1
      have k1 : adOk P A oi i σ.e := adOk_congr (fun z hz => by
        rw [e1]; exact opnd_congr z fun s hs => by simp only; rw [get_putA, if_neg fun hd => a1 s hd (mem_looks hz hs)]) hAi
      have k2 : adOk P A o j σ1'.e := adOk_congr (fun z hz => by
        rw [e2]; exact opnd_congr z fun s hs => by simp only; rw [get_putA, if_neg fun hd => a3 s hd (mem_looks hz hs)]) hAj
      exact ⟨σ1', p, τ'', c1, h2, k1, h3.trans d1, by simp only [List.cons_append, LxA]; exact ⟨o, σ2', q, ho, c2, hq, k2, d2⟩⟩
    · simp only [Bool.and_eq_true] at hpair
      obtain ⟨hap, hsep⟩ := hpair
      unfold sepA at hsep
      split at hsep
      · rename_i nm k nm' k' hA1 hA2
        have hne : ¬ (nm = nm' ∧ (k = k' ∨ 1000000 ≤ k ∨ 1000000 ≤ k')) := by
          rintro ⟨rfl, h⟩
          simp only [beq_self_eq_true, Bool.true_and, Bool.not_eq_true', Bool.or_eq_false_iff, beq_eq_false_iff_ne, ne_eq, decide_eq_false_iff_not] at hsep
          omega
        obtain ⟨σ1', σ2', p', q', c1, c2, c3, c4, c5, c6, c7⟩ := stepD_sep hap hA1 hA2 hne hAj hAi hs hq h1 h2
        obtain ⟨τ'', d1, d2⟩ := Lx_congrA c5 h4
        exact ⟨σ1', q', τ'', c1, c2, c6, h3.trans d1, by simp only [List.cons_append, LxA]; exact ⟨o, σ2', p', ho, c3, c4, c7, d2⟩⟩
      · cases hsep
end

section
variable {n : Nat} {ops : Array Oper} {A : List (Nat × Nat × Nat)} {m : List Nat} {listed : Array Bool}

theorem chkDA_spec (h : chkDA n ops A m = true) : n ≤ 10000 ∧ (∀ (j : Nat) (o : Oper), ops[j]? = some o → inB n o.dst = true) ∧
    ∀ (i : Nat) (oi : Oper), ops[i]? = some oi → (∀ t ∈ edg oi, t < i) ∧ ∀ j, j < i → ((m.getD i 0).testBit j = true ∧ ∃ t ∈ edg oi, t = j ∨ (j < t ∧ (m.getD t 0).testBit j = true)) ∨
      ((m.getD i 0).testBit j = false ∧ ∀ oj, ops[j]? = some oj → okPairA ops A j i oj oi = true) := by
  simp only [chkDA, Bool.and_eq_true, decide_eq_true_eq, List.all_eq_true, List.mem_range] at h
  obtain ⟨⟨h1, h2⟩, h3⟩ := h
  refine ⟨h1, fun j o hj => h2 o (Array.mem_toList_iff.2 (Array.mem_of_getElem? hj)), fun i oi hi => ?_⟩
  have := h3 i (Array.getElem?_eq_some_iff.1 hi).1
  simp only [hi, chkIA, Bool.and_eq_true, List.all_eq_true, decide_eq_true_eq, List.mem_range] at this
  refine ⟨this.1, fun j hj => ?_⟩
  have h4 := this.2 j hj
  cases hb : (m.getD i 0).testBit j
  · right
    rw [hb, cond_false] at h4
    exact ⟨rfl, fun oj hoj => by simpa [hoj] using h4⟩
  · left
    rw [hb, cond_true] at h4
    simp only [List.any_eq_true, Bool.or_eq_true, beq_iff_eq, Bool.and_eq_true, decide_eq_true_eq] at h4
    exact ⟨rfl, h4⟩

theorem mask_listedA (h : chkDA n ops A m = true) (hcl : ∀ (i : Nat) (o : Oper), ops[i]? = some o → listed.getD i false = true → ∀ t ∈ edg o, listed.getD t false = true) :
    ∀ (i : Nat) (oi : Oper), ops[i]? = some oi → (∀ t ∈ edg oi, listed.getD t false = true) → ∀ j, j < i → (m.getD i 0).testBit j = true → listed.getD j false = true := by
  intro i
  induction i using Nat.strongRecOn with
  | _ i ih =>
    intro oi hi hall j hj hb
    obtain ⟨_, _, hs⟩ := chkDA_spec h
    obtain ⟨hlt, hs⟩ := hs i oi hi
    rcases hs j hj with ⟨_, t, ht, rfl | ⟨hjt, htb⟩⟩ | ⟨hb', _⟩
    · exact hall t ht
    · have htl := hall t ht
      have hti := hlt t ht
      have hts : t < ops.size := Nat.lt_trans hti (Array.getElem?_eq_some_iff.1 hi).1
      exact ih t hti _ (Array.getElem?_eq_getElem hts) (hcl t _ (Array.getElem?_eq_getElem hts) htl) j hjt htb
    · rw [hb] at hb'; cases hb'

end

section
variable {C : Ctx} {Γ : FuncId → List D → RV} {fz : List Nat} {ops : Array Oper} {A : List (Nat × Nat × Nat)} {m : List Nat}

theorem any_soundA {τ : St} {Q : Exit → Act → World → Prop} (hc : chkDA C.n ops A m = true) (hQ : ∀ a w, Sim C τ a w → Q .normal a w) :
    ∀ (fuel : Nat) (listed : Array Bool) (rem : List Nat) (σ τ' : St) (a : Act) (w : World), listed.size = ops.size → (∀ i, i ∈ rem ↔ i < ops.size ∧ listed.getD i true = false) → rem.Pairwise (· < ·) → rem.length ≤ fuel →
      (∀ (i : Nat) (o : Oper), ops[i]? = some o → listed.getD i false = true → ∀ t ∈ edg o, listed.getD t false = true) →
      LxA C.P Γ ops fz A rem σ τ' → Eqv τ' τ → Sim C σ a w → wpAny C.P .any ops Q fuel listed a w := by
  obtain ⟨hn, hin, hpair⟩ := chkDA_spec hc
  intro fuel
  induction fuel with
  | zero =>
    intro listed rem σ τ' a w hsz hrem hsrt hlen hcl hl hE S
    have hr : rem = [] := List.eq_nil_of_length_eq_zero (Nat.le_zero.1 hlen)
    subst hr
    simp only [LxA] at hl; subst hl
    refine ⟨?_, hQ _ _ (hE.sim S)⟩
    refine List.eq_nil_iff_forall_not_mem.2 fun i hi => ?_
    obtain ⟨h0, o, ho, _⟩ := mem_ready.1 hi
    exact absurd ((hrem i).2 ⟨(Array.getElem?_eq_some_iff.1 ho).1, h0⟩) (by simp)
  | succ fuel ih =>
    intro listed rem σ τ' a w hsz hrem hsrt hlen hcl hl hE S
    refine ⟨fun hnone => ?_, fun i hi => ?_⟩
    · cases rem with
      | nil => simp only [LxA] at hl; subst hl; exact hQ _ _ (hE.sim S)
      | cons i rest =>
        exfalso
        have hi := (hrem i).1 (by simp)
        have hr : i ∈ Region.ready .any ops listed := by
          refine mem_ready.2 ⟨hi.2, _, Array.getElem?_eq_getElem hi.1, fun e he hb => ?_⟩
          have hlt := (hpair i _ (Array.getElem?_eq_getElem hi.1)).1 e.on (mem_edg.2 ⟨e, he, hb, rfl⟩)
          have hnot : e.on ∉ i :: rest := fun hm => by
            simp only [List.mem_cons] at hm
            rcases hm with hm | hm
            · omega
            · have := (List.pairwise_cons.1 hsrt).1 _ hm; omega
          have hos : e.on < ops.size := Nat.lt_trans hlt hi.1
          rw [← getD_tf (by omega)]
          cases hb' : listed.getD e.on true
          · exact absurd ((hrem e.on).2 ⟨hos, hb'⟩) hnot
          · rfl
        rw [hnone] at hr; cases hr
    · obtain ⟨h0, oi, hoi, hedge⟩ := mem_ready.1 hi
      have his : i < ops.size := (Array.getElem?_eq_some_iff.1 hoi).1
      obtain ⟨pre, post, rfl⟩ := List.append_of_mem ((hrem i).2 ⟨his, h0⟩)
      have hlist : ∀ t ∈ edg oi, listed.getD t false = true := fun t ht => by
        obtain ⟨e, h1, h2, rfl⟩ := mem_edg.1 ht
        exact hedge e h1 h2
      rw [List.pairwise_append] at hsrt
      obtain ⟨s1, s2, s3⟩ := hsrt
      have hok : ∀ j ∈ pre, ∀ oj, ops[j]? = some oj → okPairA ops A j i oj oi = true := fun j hj oj hoj => by
        have hji := s3 j hj i (by simp)
        rcases (hpair i oi hoi).2 j hji with ⟨hb, _⟩ | ⟨_, hb⟩
        · have h1 := mask_listedA hc hcl i oi hoi hlist j hji hb
          have h2 := ((hrem j).1 (by simp [hj])).2
          rw [getD_tf (getD_true_lt h2)] at h2
          rw [h2] at h1; cases h1
        · exact hb oj hoj
      obtain ⟨σ1, p, τ'', hs, hp, _, hE', hl'⟩ := Lx_takeA hn hin hoi hok hl
      unfold wpOp
      simp only [hoi]
      have hrem' : ∀ k, k ∈ pre ++ post ↔ k < ops.size ∧ (listed.setIfInBounds i true).getD k true = false := by
        intro k
        have hne : k ∈ pre ++ post → k ≠ i := by
          intro hk
          simp only [List.mem_append] at hk
          rcases hk with hk | hk
          · have := s3 k hk i (by simp); omega
          · have := (List.pairwise_cons.1 s2).1 k hk; omega
        by_cases hki : k = i
        · subst hki
          refine ⟨fun hk => absurd rfl (hne hk), fun hk => ?_⟩
          have := hk.2
          have hlt : k < listed.size := by omega
          simp [hlt] at this
        · rw [getD_set_ne true (Ne.symm hki), ← hrem k]
          simp [hki]
      have hcl' : ∀ (k : Nat) (o : Oper), ops[k]? = some o → (listed.setIfInBounds i true).getD k false = true → ∀ t ∈ edg o, (listed.setIfInBounds i true).getD t false = true := by
        intro k o hk hlk t ht
        by_cases hki : k = i
        · subst hki
          rw [hoi] at hk; cases hk
          exact getD_set_true (hlist t ht)
        · rw [getD_set_ne false (Ne.symm hki)] at hlk
          exact getD_set_true (hcl k o hk hlk t ht)
      have hsrt' : (pre ++ post).Pairwise (· < ·) := List.pairwise_append.2 ⟨s1, (List.pairwise_cons.1 s2).2, fun x hx y hy => s3 x hx y (by simp [hy])⟩
      have hlen' : (pre ++ post).length ≤ fuel := by simp only [List.length_append, List.length_cons] at hlen ⊢; omega
      have h3 := stepD_sound (hin i oi hoi) hs hp S (wpAny C.P .any ops Q fuel (listed.setIfInBounds i true)) Q (fun a' w' S' =>
        ih (listed.setIfInBounds i true) (pre ++ post) σ1 τ'' a' w' (by simpa using hsz) hrem' hsrt' hlen' hcl' hl' (hE'.symm.trans hE) S')
      split
      · rename_i hw; rw [if_pos hw] at h3; exact .inl h3
      · rename_i hw; rw [if_neg hw] at h3; exact h3

theorem WA_drawA {K R : St → Prop} {E : Nat → St → Prop} {σ : St} {id : Nat} (Γ : FuncId → List D → RV) (A : List (Nat × Nat × Nat)) (fz V : List Nat) (hm : C.P.follows .mixedOrders = true) (hc : chkDA C.n ops A (mkM ops.toList []) = true)
    (h : Hold (runQA C.P Γ A ops.toList fz 0 ops.toList (some ⟨σ, []⟩)) (fun σ' => K (gather V σ'))) : WA C (.region id ops true) K R E σ := by
  unfold WA
  intro a w S
  obtain ⟨τ, hl, hK⟩ := runQA_Lx (ops := ops) ops.toList 0 ⟨σ, []⟩ (by simp) h
  refine wp_region_any hm ?_
  have S' : Sim C σ a { w with drawn := w.drawn + 1 } := by
    obtain ⟨ι, S⟩ := S
    exact ⟨ι, S.grow rfl rfl rfl (Nat.le_refl _) fun _ _ => rfl⟩
  refine any_soundA (C := C) (τ := τ) hc (fun a w S => ⟨_, hK, S.gather V⟩) ops.size _ (List.range' 0 ops.toList.length) σ τ a _ (by simp) (fun i => ?_) ?_ (by simp) (fun i o hi hlst => ?_) hl (.refl _) S'
  · simp only [List.mem_range'_1, Array.length_toList]
    constructor
    · rintro ⟨_, h⟩
      have h' : i < ops.size := by omega
      exact ⟨h', by simp [h']⟩
    · rintro ⟨h, _⟩; omega
  · exact List.pairwise_lt_range'
  · have hlt := (Array.getElem?_eq_some_iff.1 hi).1
    simp [hlt] at hlst

end
section
variable {C : Ctx} {K R : St → Prop} {E : Nat → St → Prop} {σ : St}
theorem V_drawA {id : Nat} {ops : Array Oper} (Γ : FuncId → List D → RV) (A : List (Nat × Nat × Nat)) (fz V : List Nat) (hm : C.P.follows .mixedOrders = true) (hc : chkDA C.n ops A (mkM ops.toList []) = true)
    (h : Ev (Hold (runQA C.P Γ A ops.toList fz 0 ops.toList (some ⟨σ, []⟩)) (fun σ' => K (gather V σ')))) : WA C (.region id ops true) K R E σ := WA_drawA Γ A fz V hm hc h.out
end
end Go.Eng

namespace Go.Eng
open Go.RowKit


def runL (P : Program) (Γ : FuncId → List D → RV) (Δ : FuncId → List AV → Hp → Option (List PX × RV)) (n : Nat) (L : List Oper) (fz : List Nat) : List Oper → Option Rn → Option Rn
  | _, none => none
  | [], some _ => none
  | [o], some r => stepX P Γ Δ n L fz o r
  | o :: o' :: os, some r => runL P Γ Δ n L fz (o' :: os) (stepQ P Γ L fz o r)

def chkL (n : Nat) (ops : Array Oper) (m : List Nat) : Bool :=
  chkD n ops m && (List.range (ops.size - 1)).all fun j => (m.getD (ops.size - 1) 0).testBit j

section
variable {C : Ctx} {Γ : FuncId → List D → RV} {Δ : FuncId → List AV → Hp → Option (List PX × RV)} {fz : List Nat} {ops : Array Oper} {m : List Nat}

theorem runL_none : ∀ {os : List Oper} {P : Program} {n : Nat} {L : List Oper}, runL P Γ Δ n L fz os none = none
  | [], _, _, _ => by simp [runL]
  | [_], _, _, _ => by simp [runL]
  | _ :: _ :: _, _, _, _ => by simp [runL]

theorem runL_Lx {K : St → Prop} : ∀ (os : List Oper) (k : Nat) (r : Rn), ops.toList.drop k = os → Hold (runL C.P Γ Δ C.n ops.toList fz os (some r)) K →
    ∃ N oN, ops.size = N + 1 ∧ ops[N]? = some oN ∧ k ≤ N ∧ fin r.its (∃ τ, Lx C.P Γ ops fz (List.range' k (N - k)) r.σ τ ∧ ∀ a w, Sim C τ a w → ∀ (K' : Act → World → Prop) (Q : Exit → Act → World → Prop), (∀ σ' a' w', K σ' → Sim C σ' a' w' → K' a' w') →
      if Region.wanted oN (yielded ops a.tmps) then oN.wp C.P a w K' Q else K' (a.put oN.dst undef) w)
  | [], k, r, _, h => by simp only [runL, Hold] at h
  | [o], k, r, hk, h => by
    simp only [runL] at h
    have ho : ops[k]? = some o := by
      have := congrArg (·[0]?) hk
      simpa using this
    have hlt := (Array.getElem?_eq_some_iff.1 ho).1
    have hsz : ops.size = k + 1 := by
      have := congrArg List.length hk
      simp at this; omega
    refine ⟨k, o, hsz, ho, Nat.le_refl _, ?_⟩
    cases hs : stepX C.P Γ Δ C.n ops.toList fz o r with
    | none => rw [hs] at h; exact h.elim
    | some r' =>
      rw [hs] at h
      obtain ⟨its, hi, hstep⟩ := stepX_sound hs
      simp only [Hold, hi] at h
      refine fin_mono (fun hS => ⟨r.σ, by simp [Lx], fun a w S K' Q hK => ?_⟩) (fin_append h)
      obtain ⟨ι, S⟩ := S
      have := hstep _ hS ι a w S K' Q (fun hh ι' a' w' S' => hK _ a' w' hh ⟨ι', S'⟩)
      simpa using this
  | o :: o' :: os, k, r, hk, h => by
    simp only [runL] at h
    cases hs : stepQ C.P Γ ops.toList fz o r with
    | none => rw [hs, runL_none] at h; exact h.elim
    | some r' =>
      rw [hs] at h
      obtain ⟨p, hD, q, hi, hqp⟩ := stepQ_D hs
      have hk' : ops.toList.drop (k + 1) = o' :: os := by rw [← List.drop_drop, hk]; rfl
      have ho : ops[k]? = some o := by
        have := congrArg (·[0]?) hk
        simpa using this
      obtain ⟨N, oN, e1, e2, e3, ih⟩ := runL_Lx (o' :: os) (k + 1) r' hk' h
      refine ⟨N, oN, e1, e2, by omega, ?_⟩
      rw [hi] at ih
      simp only [fin] at ih
      refine fin_mono (fun hh => ?_) ih
      obtain ⟨hq, τ, hl, hK⟩ := hh
      refine ⟨τ, ?_, hK⟩
      have : N - k = (N - (k + 1)) + 1 := by omega
      rw [this]
      simp only [List.range'_succ, Lx]
      exact ⟨o, r'.σ, p, ho, hD, hqp hq, hl⟩

theorem any_soundL {τ : St} {Q : Exit → Act → World → Prop} {N : Nat} {oN : Oper} {Dn : Act → World → Prop} (hc : chkD C.n ops m = true) (hN : ops.size = N + 1) (hoN : ops[N]? = some oN)
    (hall : ∀ j, j < N → (m.getD N 0).testBit j = true)
    (hlast : ∀ a w, Sim C τ a w → ∀ (K' : Act → World → Prop), (∀ a' w', Dn a' w' → K' a' w') → if Region.wanted oN (yielded ops a.tmps) then oN.wp C.P a w K' Q else K' (a.put oN.dst undef) w)
    (hQ : ∀ a w, Dn a w → Q .normal a w) :
    ∀ (fuel : Nat) (listed : Array Bool) (rem : List Nat) (σ τ' : St) (a : Act) (w : World), listed.size = ops.size → (∀ i, i ∈ rem ↔ i < N ∧ listed.getD i true = false) → listed.getD N true = false → rem.Pairwise (· < ·) → rem.length + 1 ≤ fuel →
      (∀ (i : Nat) (o : Oper), ops[i]? = some o → listed.getD i false = true → ∀ t ∈ edg o, listed.getD t false = true) →
      Lx C.P Γ ops fz rem σ τ' → Eqv τ' τ → Sim C σ a w → wpAny C.P .any ops Q fuel listed a w := by
  obtain ⟨hn, hin, hpair⟩ := chkD_spec hc
  intro fuel
  induction fuel with
  | zero => intro listed rem σ τ' a w _ _ _ _ hlen; omega
  | succ fuel ih =>
    intro listed rem σ τ' a w hsz hrem hNf hsrt hlen hcl hl hE S
    refine ⟨fun hnone => ?_, fun i hi => ?_⟩
    · exfalso
      cases rem with
      | nil =>
        have hr : N ∈ Region.ready .any ops listed := by
          refine mem_ready.2 ⟨hNf, _, hoN, fun e he hb => ?_⟩
          have hlt := (hpair N _ hoN).1 e.on (mem_edg.2 ⟨e, he, hb, rfl⟩)
          rw [← getD_tf (by omega)]
          cases hb' : listed.getD e.on true
          · exact absurd ((hrem e.on).2 ⟨hlt, hb'⟩) (by simp)
          · rfl
        rw [hnone] at hr; cases hr
      | cons i rest =>
        have hi := (hrem i).1 (by simp)
        have his : i < ops.size := by omega
        have hr : i ∈ Region.ready .any ops listed := by
          refine mem_ready.2 ⟨hi.2, _, Array.getElem?_eq_getElem his, fun e he hb => ?_⟩
          have hlt := (hpair i _ (Array.getElem?_eq_getElem his)).1 e.on (mem_edg.2 ⟨e, he, hb, rfl⟩)
          have hnot : e.on ∉ i :: rest := fun hm => by
            simp only [List.mem_cons] at hm
            rcases hm with hm | hm
            · omega
            · have := (List.pairwise_cons.1 hsrt).1 _ hm; omega
          rw [← getD_tf (by omega)]
          cases hb' : listed.getD e.on true
          · exact absurd ((hrem e.on).2 ⟨by omega, hb'⟩) hnot
          · rfl
        rw [hnone] at hr; cases hr
    · obtain ⟨h0, oi, hoi, hedge⟩ := mem_ready.1 hi
      have his : i < ops.size := (Array.getElem?_eq_some_iff.1 hoi).1
      have hlist : ∀ t ∈ edg oi, listed.getD t false = true := fun t ht => by
        obtain ⟨e, h1, h2, rfl⟩ := mem_edg.1 ht
        exact hedge e h1 h2
      by_cases hiN : i = N
      · subst hiN
        rw [hoN] at hoi; cases hoi
        have hnil : rem = [] := by
          refine List.eq_nil_iff_forall_not_mem.2 fun j hj => ?_
          have hj' := (hrem j).1 hj
          have h1 := mask_listed hc hcl i oN hoN hlist j hj'.1 (hall j hj'.1)
          have h2 := hj'.2
          rw [getD_tf (getD_true_lt h2)] at h2
          rw [h2] at h1; cases h1
        subst hnil
        simp only [Lx] at hl; subst hl
        unfold wpOp
        simp only [hoN]
        have hset : ∀ k, k < ops.size → (listed.setIfInBounds i true).getD k true = true := by
          intro k hk
          by_cases hki : k = i
          · subst hki
            have : k < listed.size := by omega
            simp [this]
          · rw [getD_set_ne true (Ne.symm hki)]
            cases hb : listed.getD k true
            · exact absurd ((hrem k).2 ⟨by omega, hb⟩) (by simp)
            · rfl
        have hready : Region.ready .any ops (listed.setIfInBounds i true) = [] := by
          refine List.eq_nil_iff_forall_not_mem.2 fun k hk => ?_
          obtain ⟨k0, o, ho, _⟩ := mem_ready.1 hk
          rw [hset k (Array.getElem?_eq_some_iff.1 ho).1] at k0; cases k0
        have h3 := hlast a w (hE.sim S) (wpAny C.P .any ops Q fuel (listed.setIfInBounds i true)) (fun a' w' hd => by
          cases fuel with
          | zero => exact ⟨hready, hQ a' w' hd⟩
          | succ f => exact ⟨fun _ => hQ a' w' hd, fun k hk => by rw [hready] at hk; cases hk⟩)
        split
        · rename_i hw; rw [if_pos hw] at h3; exact .inl h3
        · rename_i hw; rw [if_neg hw] at h3; exact h3
      · have hiN' : i < N := by omega
        obtain ⟨pre, post, rfl⟩ := List.append_of_mem ((hrem i).2 ⟨hiN', h0⟩)
        rw [List.pairwise_append] at hsrt
        obtain ⟨s1, s2, s3⟩ := hsrt
        have hok : ∀ j ∈ pre, ∀ oj, ops[j]? = some oj → okPair ops oj oi = true := fun j hj oj hoj => by
          have hji := s3 j hj i (by simp)
          rcases (hpair i oi hoi).2 j hji with ⟨hb, _⟩ | ⟨_, hb⟩
          · have h1 := mask_listed hc hcl i oi hoi hlist j hji hb
            have h2 := ((hrem j).1 (by simp [hj])).2
            rw [getD_tf (getD_true_lt h2)] at h2
            rw [h2] at h1; cases h1
          · exact hb oj hoj
        obtain ⟨σ1, p, τ'', hs, hp, hE', hl'⟩ := Lx_take hn hin hoi hok hl
        unfold wpOp
        simp only [hoi]
        have hrem' : ∀ k, k ∈ pre ++ post ↔ k < N ∧ (listed.setIfInBounds i true).getD k true = false := by
          intro k
          have hne : k ∈ pre ++ post → k ≠ i := by
            intro hk
            simp only [List.mem_append] at hk
            rcases hk with hk | hk
            · have := s3 k hk i (by simp); omega
            · have := (List.pairwise_cons.1 s2).1 k hk; omega
          by_cases hki : k = i
          · subst hki
            refine ⟨fun hk => absurd rfl (hne hk), fun hk => ?_⟩
            have := hk.2
            have hlt : k < listed.size := by omega
            simp [hlt] at this
          · rw [getD_set_ne true (Ne.symm hki), ← hrem k]
            simp [hki]
        have hcl' : ∀ (k : Nat) (o : Oper), ops[k]? = some o → (listed.setIfInBounds i true).getD k false = true → ∀ t ∈ edg o, (listed.setIfInBounds i true).getD t false = true := by
          intro k o hk hlk t ht
          by_cases hki : k = i
          · subst hki
            rw [hoi] at hk; cases hk
            exact getD_set_true (hlist t ht)
          · rw [getD_set_ne false (Ne.symm hki)] at hlk
            exact getD_set_true (hcl k o hk hlk t ht)
        have hsrt' : (pre ++ post).Pairwise (· < ·) := List.pairwise_append.2 ⟨s1, (List.pairwise_cons.1 s2).2, fun x hx y hy => s3 x hx y (by simp [hy])⟩
        have hlen' : (pre ++ post).length + 1 ≤ fuel := by simp only [List.length_append, List.length_cons] at hlen ⊢; omega
        have h3 := stepD_sound (hin i oi hoi) hs hp S (wpAny C.P .any ops Q fuel (listed.setIfInBounds i true)) Q (fun a' w' S' =>
          ih (listed.setIfInBounds i true) (pre ++ post) σ1 τ'' a' w' (by simpa using hsz) hrem' (by rw [getD_set_ne true hiN]; exact hNf) hsrt' hlen' hcl' hl' (hE'.symm.trans hE) S')
        split
        · rename_i hw; rw [if_pos hw] at h3; exact .inl h3
        · rename_i hw; rw [if_neg hw] at h3; exact h3

theorem WA_drawL {K R : St → Prop} {E : Nat → St → Prop} {σ : St} {id : Nat} (Γ : FuncId → List D → RV) (Δ : FuncId → List AV → Hp → Option (List PX × RV)) (fz V : List Nat) (hm : C.P.follows .mixedOrders = true) (hc : chkL C.n ops (mkM ops.toList []) = true)
    (h : Hold (runL C.P Γ Δ C.n ops.toList fz ops.toList (some ⟨σ, []⟩)) (fun σ' => K (gather V σ'))) : WA C (.region id ops true) K R E σ := by
  unfold WA
  intro a w S
  simp only [chkL, Bool.and_eq_true, List.all_eq_true, List.mem_range] at hc
  obtain ⟨N, oN, e1, e2, _, τ, hl, hK⟩ := runL_Lx (ops := ops) ops.toList 0 ⟨σ, []⟩ (by simp) h
  refine wp_region_any hm ?_
  have S' : Sim C σ a { w with drawn := w.drawn + 1 } := by
    obtain ⟨ι, S⟩ := S
    exact ⟨ι, S.grow rfl rfl rfl (Nat.le_refl _) fun _ _ => rfl⟩
  refine any_soundL (C := C) (τ := τ) (N := N) (oN := oN) (Dn := fun a w => ∃ σ', K σ' ∧ Sim C σ' a w) hc.1 e1 e2 (by have := hc.2; rw [e1] at this; simpa using this)
    (fun a w S K' hK' => hK a w S K' _ (fun σ' a' w' h1 h2 => hK' a' w' ⟨_, h1, h2.gather V⟩)) (fun a w ⟨σ', h1, h2⟩ => ⟨σ', h1, h2⟩)
    ops.size _ (List.range' 0 (N - 0)) σ τ a _ (by simp) (fun i => ?_) ?_ ?_ (by simp; omega) (fun i o hi hlst => ?_) hl (.refl _) S'
  · simp only [List.mem_range'_1]
    constructor
    · rintro ⟨_, h⟩
      have h' : i < ops.size := by omega
      exact ⟨by omega, by simp [h']⟩
    · rintro ⟨h, _⟩; omega
  · have h' : N < ops.size := by omega
    simp [h']
  · exact List.pairwise_lt_range'
  · have hlt := (Array.getElem?_eq_some_iff.1 hi).1
    simp [hlt] at hlst
theorem V_drawL {K R : St → Prop} {E : Nat → St → Prop} {σ : St} {id : Nat} (Γ : FuncId → List D → RV) (Δ : FuncId → List AV → Hp → Option (List PX × RV)) (fz V : List Nat) (hm : C.P.follows .mixedOrders = true) (hc : chkL C.n ops (mkM ops.toList []) = true)
    (h : Ev (Hold (runL C.P Γ Δ C.n ops.toList fz ops.toList (some ⟨σ, []⟩)) (fun σ' => K (gather V σ')))) : WA C (.region id ops true) K R E σ := WA_drawL Γ Δ fz V hm hc h.out

end
end Go.Eng

