import Derived.Test.YtfpimhkkknfmcaaEngT
namespace Go.Eng
open Go.RowKit

/-! ### Any order will do -/

/-- As a step in the order of the text, its sides alone. -/
def stepQ (P : Program) (Γ : FuncId → List D → RV) (L : List Oper) (fz : List Nat) (o : Oper) (r : Rn) : Option Rn :=
  match o.guard with
  | none => match outOf P Γ fz o true r.σ with
    | some out => some ⟨⟨putA o.dst out.av r.σ.e, out.hp ++ r.σ.h⟩, (true, out.side) :: r.its⟩
    | none => none
  | some (j, want) => match gval L r.σ.e j want with
    | some g => match outOf P Γ fz o g r.σ with
      | some out => some ⟨⟨putA o.dst (.gd g out.av) r.σ.e, hg g out.hp ++ r.σ.h⟩, (true, g = true → out.side) :: r.its⟩
      | none => none
    | none => none

def runQ (P : Program) (Γ : FuncId → List D → RV) (L : List Oper) (fz : List Nat) : List Oper → Option Rn → Option Rn
  | _, none => none
  | [], some r => some r
  | o :: os, some r => runQ P Γ L fz os (stepQ P Γ L fz o r)

def Lx (P : Program) (Γ : FuncId → List D → RV) (ops : Array Oper) (fz : List Nat) : List Nat → St → St → Prop
  | [], σ, τ => τ = σ
  | i :: l, σ, τ => ∃ o σ' p, ops[i]? = some o ∧ stepD P Γ ops.toList fz o σ = some (σ', p) ∧ p ∧ Lx P Γ ops fz l σ' τ

section
variable {P : Program} {Γ : FuncId → List D → RV} {fz : List Nat} {L : List Oper} {σ σ' : St} {o : Oper} {g : Bool} {ops : Array Oper}

theorem stepQ_D {r r' : Rn} (h : stepQ P Γ L fz o r = some r') : ∃ p, stepD P Γ L fz o r.σ = some (r'.σ, p) ∧ ∃ q, r'.its = (true, q) :: r.its ∧ (q → p) := by
  unfold stepQ at h
  split at h
  · rename_i hg
    split at h
    · rename_i out ho
      simp only [Option.some.injEq] at h; subst h
      refine ⟨true = true → out.side, ?_, _, rfl, fun q _ => q⟩
      simp only [stepD, gOf, hg, outD, ho, Option.map_some, wr, hw]
    · cases h
  · rename_i j want hg
    split at h
    · rename_i g hgv
      split at h
      · rename_i out ho
        simp only [Option.some.injEq] at h; subst h
        refine ⟨g = true → out.side, ?_, _, rfl, fun q => q⟩
        simp only [stepD, gOf, hg, hgv, outD, ho, Option.map_some, wr, hw]
      · cases h
    · cases h

theorem runQ_none : ∀ {os : List Oper}, runQ P Γ L fz os none = none
  | [] => rfl
  | _ :: _ => rfl

theorem runQ_Lx {K : St → Prop} : ∀ (os : List Oper) (k : Nat) (r : Rn), ops.toList.drop k = os → Hold (runQ P Γ ops.toList fz os (some r)) K →
    fin r.its (∃ τ, Lx P Γ ops fz (List.range' k os.length) r.σ τ ∧ K τ)
  | [], k, r, _, h => by
    simp only [runQ, Hold] at h
    exact fin_mono (fun hK => ⟨_, rfl, hK⟩) h
  | o :: os, k, r, hk, h => by
    simp only [runQ] at h
    cases hs : stepQ P Γ ops.toList fz o r with
    | none => rw [hs, runQ_none] at h; exact h.elim
    | some r' =>
      rw [hs] at h
      obtain ⟨p, hD, q, hi, hqp⟩ := stepQ_D hs
      have hk' : ops.toList.drop (k + 1) = os := by rw [← List.drop_drop, hk]; rfl
      have ho : ops[k]? = some o := by
        have := congrArg (·[0]?) hk
        simpa using this
      have ih := runQ_Lx os (k + 1) r' hk' h
      rw [hi] at ih
      simp only [fin] at ih
      refine fin_mono (fun hh => ?_) ih
      obtain ⟨hq, τ, hl, hK⟩ := hh
      exact ⟨τ, by simp only [List.length_cons, List.range'_succ, Lx]; exact ⟨o, r'.σ, p, ho, hD, hqp hq, hl⟩, hK⟩

theorem Lx_congr {τ : St} : ∀ {l : List Nat} {σ σ' : St}, Eqv σ σ' → Lx P Γ ops fz l σ τ → ∃ τ', Eqv τ τ' ∧ Lx P Γ ops fz l σ' τ'
  | [], σ, σ', hE, h => by simp only [Lx] at h; subst h; exact ⟨σ', hE, rfl⟩
  | i :: l, σ, σ', hE, h => by
    simp only [Lx] at h
    obtain ⟨o, σ1, p, ho, hs, hp, hl⟩ := h
    obtain ⟨σ1', hs', hE'⟩ := stepD_congr hE hs
    obtain ⟨τ', h1, h2⟩ := Lx_congr hE' hl
    exact ⟨τ', h1, o, σ1', p, ho, hs', hp, h2⟩

theorem Lx_take {n : Nat} {τ : St} {i : Nat} {oi : Oper} {post : List Nat} (hn : n ≤ 10000) (hin : ∀ (j : Nat) (o : Oper), ops[j]? = some o → inB n o.dst = true) (hi : ops[i]? = some oi) :
    ∀ {pre : List Nat} {σ : St}, (∀ j ∈ pre, ∀ oj, ops[j]? = some oj → okPair ops oj oi = true) → Lx P Γ ops fz (pre ++ i :: post) σ τ →
      ∃ σ' p τ', stepD P Γ ops.toList fz oi σ = some (σ', p) ∧ p ∧ Eqv τ τ' ∧ Lx P Γ ops fz (pre ++ post) σ' τ'
  | [], σ, _, h => by
    simp only [List.nil_append, Lx] at h
    obtain ⟨o, σ', p, ho, hs, hp, hl⟩ := h
    rw [hi] at ho; cases ho
    exact ⟨σ', p, τ, hs, hp, .refl _, hl⟩
  | j :: pre, σ, hok, h => by
    simp only [List.cons_append, Lx] at h
    obtain ⟨o, σ1, q, ho, hs, hq, hl⟩ := h
    obtain ⟨σ2, p, τ', h1, h2, h3, h4⟩ := Lx_take hn hin hi (pre := pre) (fun j hj => hok j (by simp [hj])) hl
    obtain ⟨σ1', σ2', c1, c2, c3⟩ := stepD_comm hn (hin _ _ ho) (hin _ _ hi) (hok j (by simp) o ho) hs h1
    obtain ⟨τ'', d1, d2⟩ := Lx_congr c3 h4
    exact ⟨σ1', p, τ'', c1, h2, h3.trans d1, by simp only [List.cons_append, Lx]; exact ⟨o, σ2', q, ho, c2, hq, d2⟩⟩
end

/-! ### The check on the region's edges -/

def edg (o : Oper) : List Nat := (o.after.toList.filter (Region.binds .any)).map (·.on)
def mkM : List Oper → List Nat → List Nat
  | [], m => m
  | o :: l, m => mkM l (m ++ [(edg o).foldl (fun x t => x ||| (1 <<< t) ||| m.getD t 0) 0])
def chkI (ops : Array Oper) (m : List Nat) (i : Nat) (oi : Oper) : Bool :=
  (edg oi).all (fun t => decide (t < i)) && (List.range i).all fun j =>
    bif (m.getD i 0).testBit j then (edg oi).any (fun t => t == j || (decide (j < t) && (m.getD t 0).testBit j))
    else match ops[j]? with
      | some oj => okPair ops oj oi
      | none => true
def chkD (n : Nat) (ops : Array Oper) (m : List Nat) : Bool :=
  decide (n ≤ 10000) && ops.toList.all (fun o => inB n o.dst) && (List.range ops.size).all fun i => match ops[i]? with
    | some oi => chkI ops m i oi
    | none => true

section
variable {n : Nat} {ops : Array Oper} {m : List Nat} {listed : Array Bool}

theorem chkD_spec (h : chkD n ops m = true) : n ≤ 10000 ∧ (∀ (j : Nat) (o : Oper), ops[j]? = some o → inB n o.dst = true) ∧
    ∀ (i : Nat) (oi : Oper), ops[i]? = some oi → (∀ t ∈ edg oi, t < i) ∧ ∀ j, j < i → ((m.getD i 0).testBit j = true ∧ ∃ t ∈ edg oi, t = j ∨ (j < t ∧ (m.getD t 0).testBit j = true)) ∨
      ((m.getD i 0).testBit j = false ∧ ∀ oj, ops[j]? = some oj → okPair ops oj oi = true) := by
  simp only [chkD, Bool.and_eq_true, decide_eq_true_eq, List.all_eq_true, List.mem_range] at h
  obtain ⟨⟨h1, h2⟩, h3⟩ := h
  refine ⟨h1, fun j o hj => h2 o (Array.mem_toList_iff.2 (Array.mem_of_getElem? hj)), fun i oi hi => ?_⟩
  have := h3 i (Array.getElem?_eq_some_iff.1 hi).1
  simp only [hi, chkI, Bool.and_eq_true, List.all_eq_true, decide_eq_true_eq, List.mem_range] at this
  refine ⟨this.1, fun j hj => ?_⟩
  have h4 := this.2 j hj
  cases hb : (m.getD i 0).testBit j
  · right
    rw [hb, cond_false] at h4
    exact ⟨rfl, fun oj hoj => by simpa [hoj] using h4⟩
  · left
    rw [hb, cond_true] at h4
    simp only [List.any_eq_true, Bool.or_eq_true, beq_iff_eq, Bool.and_eq_true, decide_eq_true_eq] at h4
    exact ⟨rfl, h4⟩

theorem mask_listed (h : chkD n ops m = true) (hcl : ∀ (i : Nat) (o : Oper), ops[i]? = some o → listed.getD i false = true → ∀ t ∈ edg o, listed.getD t false = true) :
    ∀ (i : Nat) (oi : Oper), ops[i]? = some oi → (∀ t ∈ edg oi, listed.getD t false = true) → ∀ j, j < i → (m.getD i 0).testBit j = true → listed.getD j false = true := by
  intro i
  induction i using Nat.strongRecOn with
  | _ i ih =>
    intro oi hi hall j hj hb
    obtain ⟨_, _, hs⟩ := chkD_spec h
    obtain ⟨hlt, hs⟩ := hs i oi hi
    rcases hs j hj with ⟨_, t, ht, rfl | ⟨hjt, htb⟩⟩ | ⟨hb', _⟩
    · exact hall t ht
    · have htl := hall t ht
      have hti := hlt t ht
      have hts : t < ops.size := Nat.lt_trans hti (Array.getElem?_eq_some_iff.1 hi).1
      exact ih t hti _ (Array.getElem?_eq_getElem hts) (hcl t _ (Array.getElem?_eq_getElem hts) htl) j hjt htb
    · rw [hb] at hb'; cases hb'

theorem mem_edg {o : Oper} {t : Nat} : t ∈ edg o ↔ ∃ e ∈ o.after, Region.binds .any e = true ∧ e.on = t := by
  simp only [edg, List.mem_map, List.mem_filter, Array.mem_toList_iff]
  constructor
  · rintro ⟨e, ⟨h1, h2⟩, h3⟩; exact ⟨e, h1, h2, h3⟩
  · rintro ⟨e, h1, h2, h3⟩; exact ⟨e, ⟨h1, h2⟩, h3⟩

theorem getD_tf {i : Nat} (h : i < listed.size) : listed.getD i true = listed.getD i false := by
  simp [Array.getElem?_eq_getElem h]
theorem getD_true_lt {i : Nat} (h : listed.getD i true = false) : i < listed.size := by
  rcases Nat.lt_or_ge i listed.size with h' | h'
  · exact h'
  · simp [Array.getElem?_eq_none h'] at h
end

section
variable {C : Ctx} {Γ : FuncId → List D → RV} {fz : List Nat} {ops : Array Oper} {m : List Nat}

theorem stepD_sound {o : Oper} {σ σ' : St} {p : Prop} (hin : inB C.n o.dst = true) (h : stepD C.P Γ ops.toList fz o σ = some (σ', p)) (hp : p) {a : Act} {w : World} (S : Sim C σ a w)
    (K : Act → World → Prop) (Q : Exit → Act → World → Prop) (hK : ∀ a' w', Sim C σ' a' w' → K a' w') :
    if Region.wanted o (yielded ops a.tmps) then o.wp C.P a w K Q else K (a.put o.dst undef) w := by
  obtain ⟨g, x, h1, h2, rfl, rfl⟩ := stepD_spec h
  obtain ⟨out, ho, e1, e2, e3⟩ := outD_some h2
  obtain ⟨ι, S⟩ := S
  cases hgd : o.guard with
  | none =>
    simp only [gOf, hgd, Option.some.injEq] at h1; subst h1
    have hs : stepS C.P Γ C.n ops.toList fz o ⟨σ, []⟩ = some ⟨⟨putA o.dst out.av σ.e, out.hp ++ σ.h⟩, [(false, out.know), (true, out.side)]⟩ := by
      simp only [stepS, hin, cond_true, hgd, ho]
    obtain ⟨its, hi, hstep⟩ := step_sound hs
    simp only [List.append_nil] at hi
    have := hstep True (by rw [← hi]; simp only [fin]; exact ⟨e3 ▸ hp rfl, fun _ => trivial⟩) ι a w S K Q (fun _ ι' a' w' S' => hK a' w' (by
      simp only [wr, hw, hgd, e1, e2]; exact ⟨ι', S'⟩))
    simpa using this
  | some jw =>
    obtain ⟨j, want⟩ := jw
    simp only [gOf, hgd] at h1
    have hs : stepS C.P Γ C.n ops.toList fz o ⟨σ, []⟩ = some ⟨⟨putA o.dst (.gd g out.av) σ.e, hg g out.hp ++ σ.h⟩, [(false, g = true → out.know), (true, g = true → out.side)]⟩ := by
      simp only [stepS, hin, cond_true, hgd, h1, ho]
    obtain ⟨its, hi, hstep⟩ := step_sound hs
    simp only [List.append_nil] at hi
    have := hstep True (by rw [← hi]; simp only [fin]; exact ⟨e3 ▸ hp, fun _ => trivial⟩) ι a w S K Q (fun _ ι' a' w' S' => hK a' w' (by
      simp only [wr, hw, hgd, e1, e2]; exact ⟨ι', S'⟩))
    simpa using this

theorem any_sound {τ : St} {Q : Exit → Act → World → Prop} (hc : chkD C.n ops m = true) (hQ : ∀ a w, Sim C τ a w → Q .normal a w) :
    ∀ (fuel : Nat) (listed : Array Bool) (rem : List Nat) (σ τ' : St) (a : Act) (w : World), listed.size = ops.size → (∀ i, i ∈ rem ↔ i < ops.size ∧ listed.getD i true = false) → rem.Pairwise (· < ·) → rem.length ≤ fuel →
      (∀ (i : Nat) (o : Oper), ops[i]? = some o → listed.getD i false = true → ∀ t ∈ edg o, listed.getD t false = true) →
      Lx C.P Γ ops fz rem σ τ' → Eqv τ' τ → Sim C σ a w → wpAny C.P .any ops Q fuel listed a w := by
  obtain ⟨hn, hin, hpair⟩ := chkD_spec hc
  intro fuel
  induction fuel with
  | zero =>
    intro listed rem σ τ' a w hsz hrem hsrt hlen hcl hl hE S
    have hr : rem = [] := List.eq_nil_of_length_eq_zero (Nat.le_zero.1 hlen)
    subst hr
    simp only [Lx] at hl; subst hl
    refine ⟨?_, hQ _ _ (hE.sim S)⟩
    refine List.eq_nil_iff_forall_not_mem.2 fun i hi => ?_
    obtain ⟨h0, o, ho, _⟩ := mem_ready.1 hi
    exact absurd ((hrem i).2 ⟨(Array.getElem?_eq_some_iff.1 ho).1, h0⟩) (by simp)
  | succ fuel ih =>
    intro listed rem σ τ' a w hsz hrem hsrt hlen hcl hl hE S
    refine ⟨fun hnone => ?_, fun i hi => ?_⟩
    · cases rem with
      | nil => simp only [Lx] at hl; subst hl; exact hQ _ _ (hE.sim S)
      | cons i rest =>
        exfalso
        have hi := (hrem i).1 (by simp)
        have hr : i ∈ Region.ready .any ops listed := by
          refine mem_ready.2 ⟨hi.2, _, Array.getElem?_eq_getElem hi.1, fun e he hb => ?_⟩
          have hlt := (hpair i _ (Array.getElem?_eq_getElem hi.1)).1 e.on (mem_edg.2 ⟨e, he, hb, rfl⟩)
          have hnot : e.on ∉ i :: rest := fun hm => by
            simp only [List.mem_cons] at hm
            rcases hm with hm | hm
            · omega
            · have := (List.pairwise_cons.1 hsrt).1 _ hm; omega
          have hos : e.on < ops.size := Nat.lt_trans hlt hi.1
          rw [← getD_tf (by omega)]
          cases hb' : listed.getD e.on true
          · exact absurd ((hrem e.on).2 ⟨hos, hb'⟩) hnot
          · rfl
        rw [hnone] at hr; cases hr
    · obtain ⟨h0, oi, hoi, hedge⟩ := mem_ready.1 hi
      have his : i < ops.size := (Array.getElem?_eq_some_iff.1 hoi).1
      obtain ⟨pre, post, rfl⟩ := List.append_of_mem ((hrem i).2 ⟨his, h0⟩)
      have hlist : ∀ t ∈ edg oi, listed.getD t false = true := fun t ht => by
        obtain ⟨e, h1, h2, rfl⟩ := mem_edg.1 ht
        exact hedge e h1 h2
      rw [List.pairwise_append] at hsrt
      obtain ⟨s1, s2, s3⟩ := hsrt
      have hok : ∀ j ∈ pre, ∀ oj, ops[j]? = some oj → okPair ops oj oi = true := fun j hj oj hoj => by
        have hji := s3 j hj i (by simp)
        rcases (hpair i oi hoi).2 j hji with ⟨hb, _⟩ | ⟨_, hb⟩
        · have h1 := mask_listed hc hcl i oi hoi hlist j hji hb
          have h2 := ((hrem j).1 (by simp [hj])).2
          rw [getD_tf (getD_true_lt h2)] at h2
          rw [h2] at h1; cases h1
        · exact hb oj hoj
      obtain ⟨σ1, p, τ'', hs, hp, hE', hl'⟩ := Lx_take hn hin hoi hok hl
      unfold wpOp
      simp only [hoi]
      have hrem' : ∀ k, k ∈ pre ++ post ↔ k < ops.size ∧ (listed.setIfInBounds i true).getD k true = false := by
        intro k
        have hne : k ∈ pre ++ post → k ≠ i := by
          intro hk
          simp only [List.mem_append] at hk
          rcases hk with hk | hk
          · have := s3 k hk i (by simp); omega
          · have := (List.pairwise_cons.1 s2).1 k hk; omega
        by_cases hki : k = i
        · subst hki
          refine ⟨fun hk => absurd rfl (hne hk), fun hk => ?_⟩
          have := hk.2
          have hlt : k < listed.size := by omega
          simp [hlt] at this
        · rw [getD_set_ne true (Ne.symm hki), ← hrem k]
          simp [hki]
      have hcl' : ∀ (k : Nat) (o : Oper), ops[k]? = some o → (listed.setIfInBounds i true).getD k false = true → ∀ t ∈ edg o, (listed.setIfInBounds i true).getD t false = true := by
        intro k o hk hlk t ht
        by_cases hki : k = i
        · subst hki
          rw [hoi] at hk; cases hk
          exact getD_set_true (hlist t ht)
        · rw [getD_set_ne false (Ne.symm hki)] at hlk
          exact getD_set_true (hcl k o hk hlk t ht)
      have hsrt' : (pre ++ post).Pairwise (· < ·) := List.pairwise_append.2 ⟨s1, (List.pairwise_cons.1 s2).2, fun x hx y hy => s3 x hx y (by simp [hy])⟩
      have hlen' : (pre ++ post).length ≤ fuel := by simp only [List.length_append, List.length_cons] at hlen ⊢; omega
      have h3 := stepD_sound (hin i oi hoi) hs hp S (wpAny C.P .any ops Q fuel (listed.setIfInBounds i true)) Q (fun a' w' S' =>
        ih (listed.setIfInBounds i true) (pre ++ post) σ1 τ'' a' w' (by simpa using hsz) hrem' hsrt' hlen' hcl' hl' (hE'.symm.trans hE) S')
      split
      · rename_i hw; rw [if_pos hw] at h3; exact .inl h3
      · rename_i hw; rw [if_neg hw] at h3; exact h3

theorem WA_draw {K R : St → Prop} {E : Nat → St → Prop} {σ : St} {id : Nat} (Γ : FuncId → List D → RV) (fz V : List Nat) (hm : C.P.follows .mixedOrders = true) (hc : chkD C.n ops (mkM ops.toList []) = true)
    (h : Hold (runQ C.P Γ ops.toList fz ops.toList (some ⟨σ, []⟩)) (fun σ' => K (gather V σ'))) : WA C (.region id ops true) K R E σ := by
  unfold WA
  intro a w S
  obtain ⟨τ, hl, hK⟩ := runQ_Lx (ops := ops) ops.toList 0 ⟨σ, []⟩ (by simp) h
  refine wp_region_any hm ?_
  have S' : Sim C σ a { w with drawn := w.drawn + 1 } := by
    obtain ⟨ι, S⟩ := S
    exact ⟨ι, S.grow rfl rfl rfl (Nat.le_refl _) fun _ _ => rfl⟩
  refine any_sound (C := C) (τ := τ) hc (fun a w S => ⟨_, hK, S.gather V⟩) ops.size _ (List.range' 0 ops.toList.length) σ τ a _ (by simp) (fun i => ?_) ?_ (by simp) (fun i o hi hlst => ?_) hl (.refl _) S'
  · simp only [List.mem_range'_1, Array.length_toList]
    constructor
    · rintro ⟨_, h⟩
      have h' : i < ops.size := by omega
      exact ⟨h', by simp [h']⟩
    · rintro ⟨h, _⟩; omega
  · exact List.pairwise_lt_range'
  · have hlt := (Array.getElem?_eq_some_iff.1 hi).1
    simp [hlt] at hlst
end
end Go.Eng
