import Derived.Test.YtfpimhkkknfmcaaEngM
namespace Go.Eng
open Go.RowKit

/-! ### Code -/

def QQ (C : Ctx) (K R : St → Prop) (E : Nat → St → Prop) : Exit → Act → World → Prop
  | .normal, a, w => ∃ σ, K σ ∧ Sim C σ a w
  | .ret, a, w => ∃ σ, R σ ∧ Sim C σ a w
  | .exit i, a, w => ∃ σ, E i σ ∧ Sim C σ a w
  | _, _, _ => False

def WA (C : Ctx) (c : Code) (K R : St → Prop) (E : Nat → St → Prop) (σ : St) : Prop := ∀ a w, Sim C σ a w → c.wp C.P (QQ C K R E) a w

def Cnd (c : AV) (A B : Prop) : Prop := match c with
  | .dat (.b c) => (c = true → A) ∧ (c = false → B)
  | _ => False

def del (k : Nat) : Hp → Hp
  | [] => []
  | (j, x) :: l => bif j == k then del k l else (j, x) :: del k l
theorem del_length (k : Nat) : ∀ (h : Hp), (del k h).length ≤ h.length
  | [] => Nat.le_refl _
  | (j, x) :: l => by
    simp only [del]
    have := del_length k l
    cases j == k <;> simp only [cond_true, cond_false, List.length_cons] <;> omega
theorem geth_del {k : Nat} : ∀ {h : Hp} {j : Nat}, geth (del k h) j = if j = k then none else geth h j
  | [], j => by simp [del, geth]
  | (i, x) :: l, j => by
    have ih := geth_del (k := k) (h := l) (j := j)
    simp only [del]
    cases hi : i == k
    · simp only [cond_false, geth, ih]
      cases hij : i == j
      · rfl
      · simp only [cond_true]
        simp only [beq_iff_eq] at hij; subst hij
        have : ¬ i = k := by simpa using hi
        simp [this]
    · simp only [cond_true, ih, geth]
      simp only [beq_iff_eq] at hi; subst hi
      by_cases hj : j = i
      · simp [hj]
      · have : (i == j) = false := by simpa using fun e => hj e.symm
        simp [hj, this]
/-- Each name once. -/
def nrm : Nat → Hp → Hp
  | 0, h => h
  | _, [] => []
  | n + 1, (k, some x) :: l => (k, some x) :: nrm n (del k l)
  | n + 1, (k, none) :: l => nrm n (del k l)
theorem geth_nrm : ∀ {n : Nat} {h : Hp} {j : Nat}, geth (nrm n h) j = geth h j
  | 0, h, j => by simp [nrm]
  | n + 1, [], j => by simp [nrm]
  | n + 1, (k, some x) :: l, j => by
    simp only [nrm, geth]
    cases hk : k == j
    · simp only [cond_false, geth_nrm, geth_del]
      have : ¬ j = k := by simp only [beq_eq_false_iff_ne] at hk; exact fun e => hk e.symm
      simp [this]
    · rfl
  | n + 1, (k, none) :: l, j => by
    simp only [nrm, geth]
    cases hk : k == j
    · simp only [cond_false, geth_nrm, geth_del]
      have : ¬ j = k := by simp only [beq_eq_false_iff_ne] at hk; exact fun e => hk e.symm
      simp [this]
    · simp only [cond_true, geth_nrm, geth_del]
      simp only [beq_iff_eq] at hk; subst hk
      simp

def gather (V : List Nat) (σ : St) : St := ⟨V.map fun k => (k, get σ.e k), nrm 100 σ.h⟩

section
variable {C : Ctx} {K R : St → Prop} {E : Nat → St → Prop} {σ : St}

theorem WA.mono {c : Code} {K' R' : St → Prop} {E' : Nat → St → Prop} (h : WA C c K R E σ) (hk : ∀ σ, K σ → K' σ) (hr : ∀ σ, R σ → R' σ) (he : ∀ i σ, E i σ → E' i σ) : WA C c K' R' E' σ := by
  intro a w S
  refine wp_mono (h a w S) fun e a w hq => ?_
  cases e with
  | normal => obtain ⟨σ, h1, h2⟩ := hq; exact ⟨σ, hk σ h1, h2⟩
  | ret => obtain ⟨σ, h1, h2⟩ := hq; exact ⟨σ, hr σ h1, h2⟩
  | exit i => obtain ⟨σ, h1, h2⟩ := hq; exact ⟨σ, he i σ h1, h2⟩
  | goto l => exact hq
  | panic ch => exact hq
  | outgrown => exact hq

theorem WA_seq {x y : Code} (h : WA C x (fun σ => WA C y K R E σ) R E σ) : WA C (.seq x y) K R E σ := by
  intro a w S
  refine wp_seq (wp_mono (h a w S) fun e a w hq => ?_)
  cases e with
  | normal => obtain ⟨σ, h1, h2⟩ := hq; exact h1 a w h2
  | ret => exact hq
  | exit i => exact hq
  | goto l => exact hq
  | panic ch => exact hq
  | outgrown => exact hq

theorem WA_cond {c : Operand} {x y : Code} (h : Cnd (opnd σ.e c) (WA C x K R E σ) (WA C y K R E σ)) : WA C (.cond c x y) K R E σ := by
  intro a w S
  obtain ⟨ι, SI⟩ := S
  unfold Cnd at h
  split at h
  · rename_i cc hc
    have hr := SI.opnd c
    rw [hc] at hr
    simp only [RepA, RepD] at hr
    exact wp_cond_split hr (fun ht => h.1 ht a w ⟨ι, SI⟩) (fun ht => h.2 ht a w ⟨ι, SI⟩)
  · exact h.elim

theorem WA_block {id : Nat} {c : Code} (h : WA C c K R (fun i σ => if i = id then K σ else E i σ) σ) : WA C (.block id c) K R E σ := by
  intro a w S
  refine wp_block (wp_mono (h a w S) fun e a w hq => ?_)
  cases e with
  | normal => exact hq
  | ret => exact hq
  | exit i =>
    obtain ⟨σ, h1, h2⟩ := hq
    simp only [Exit.inBlock]
    split
    · rename_i hi; rw [if_pos hi] at h1; exact ⟨σ, h1, h2⟩
    · rename_i hi; rw [if_neg hi] at h1; exact ⟨σ, h1, h2⟩
  | goto l => exact hq
  | panic ch => exact hq
  | outgrown => exact hq

theorem WA_exit {i : Nat} (h : E i σ) : WA C (.exit i) K R E σ := fun _ _ S => wp_exit ⟨σ, h, S⟩
theorem WA_ret (h : R σ) : WA C .ret K R E σ := fun _ _ S => wp_ret ⟨σ, h, S⟩
theorem WA_skip (h : K σ) : WA C .skip K R E σ := fun _ _ S => wp_skip ⟨σ, h, S⟩
theorem WA_label {l : Nat} (h : K σ) : WA C (.label l) K R E σ := fun _ _ S => wp_label ⟨σ, h, S⟩

theorem get_gather {e : List (Nat × AV)} {V : List Nat} {s : Nat} : get (V.map fun k => (k, get e k)) s = if s ∈ V then get e s else .un := by
  induction V with
  | nil => simp [get]
  | cons v V ih =>
    simp only [List.map_cons, get, List.mem_cons]
    by_cases h : v = s
    · subst h; simp
    · have : (v == s) = false := by simpa using h
      rw [this, ih]
      have h' : ¬ s = v := fun e => h e.symm
      simp [h']

theorem Sim.gather {a : Act} {w : World} (V : List Nat) (S : Sim C σ a w) : Sim C (gather V σ) a w := by
  obtain ⟨ι, S⟩ := S
  have S1 : SimI C ⟨V.map fun k => (k, get σ.e k), σ.h⟩ ι a w := by
    refine ⟨fun s => ?_, S.ent, S.inj, S.os, S.tape, S.output, S.size, S.old, S.def0, S.tms⟩
    simp only [get_gather]
    split
    · exact S.env s
    · simp only [RepA]
  exact ⟨ι, S1.hcongr fun k => geth_nrm⟩

theorem WA_region {id : Nat} {ops : Array Oper} (Γ : FuncId → List D → RV) (fz V : List Nat) (h : Hold (runOps C.P Γ C.n ops.toList fz ops.toList (some ⟨σ, []⟩)) (fun σ' => K (gather V σ'))) : WA C (.region id ops false) K R E σ := by
  intro a w S
  obtain ⟨ι, S⟩ := S
  have h1 := run_sound (C := C) (Q := QQ C K R E) (K := fun σ' => K (gather V σ')) (fun σ a w hk hs => ⟨_, hk, hs.gather V⟩) ops.toList 0 ⟨σ, []⟩ (by simp) h
  simp only [fin] at h1
  have h2 := h1 ι a w S
  refine wp_region ?_
  simpa [List.range_eq_range'] using h2

theorem WA_loop {c : Code} {α : Type} (hd : α → St) (I : α → Prop) (μ : α → Nat) (h0 : ∃ x, I x ∧ ∀ a w, Sim C σ a w → Sim C (hd x) a w)
    (hr : ∀ x, I x → WA C c (fun σ' => ∃ x', I x' ∧ μ x' < μ x ∧ ∀ a w, Sim C σ' a w → Sim C (hd x') a w) R E (hd x)) : WA C (.loop c) K R E σ := by
  intro a w S
  obtain ⟨x0, i0, s0⟩ := h0
  -- the measure stands in no slot: by induction on it
  have key : ∀ n x, μ x = n → I x → ∀ a w, Sim C (hd x) a w → ∀ (b : Frame) (k : List Item) (cs : List Frame), ∃ e a' w', QQ C K R E e a' w' ∧ Arrives C.P (lone (b.at a (.code c :: .inLoop c :: k)) cs w) b k cs e a' w' := by
    intro n
    induction n using Nat.strongRecOn with
    | _ n ih =>
      intro x hn hI a w S b k cs
      obtain ⟨e, a₁, w₁, hq, harr⟩ := hr x hI a w S b (.inLoop c :: k) cs
      cases e with
      | normal =>
        obtain ⟨σ', ⟨x', hI', hlt, hs⟩, S'⟩ := hq
        obtain ⟨e₂, a₂, w₂, hq₂, harr₂⟩ := ih (μ x') (hn ▸ hlt) x' rfl hI' a₁ w₁ (hs _ _ S') b k cs
        exact ⟨e₂, a₂, w₂, hq₂, .of_steps (Steps.trans harr (.one step_inLoop)) harr₂⟩
      | exit id => exact ⟨.exit id, a₁, w₁, hq, .pass (x := .inLoop c) rfl (fun _ _ => .inl (by simp)) harr⟩
      | goto l => exact hq.elim
      | ret => exact ⟨.ret, a₁, w₁, hq, .pass (x := .inLoop c) rfl (fun _ _ => .inl (by simp)) harr⟩
      | panic ch => exact hq.elim
      | outgrown => exact hq.elim
  intro b k cs
  obtain ⟨e, a', w', hq, harr⟩ := key _ x0 rfl i0 a w (s0 a w S) b k cs
  exact ⟨e, a', w', hq, .of_steps (.one step_loop) harr⟩

theorem WA.app {c : Code} (h : WA C c K R E σ) (a : Act) (w : World) (S : Sim C σ a w) : c.wp C.P (QQ C K R E) a w := h a w S

theorem WA_sub {c : Code} {σ' : St} (hs : ∀ a w, Sim C σ a w → Sim C σ' a w) (h : WA C c K R E σ') : WA C c K R E σ := fun a w S => h a w (hs a w S)
end

attribute [irreducible] WA

/-! ### A function -/

mutual
/-- A returned value as a result: the names that go with it. -/
def retA (h : Hp) : AV → RV → Option (List Nat × Prop)
  | .dat (.v (.slice none 0 0)), .own _ _ l => some ([], l = [])
  | .dat (.agg ds), .agg rs => retDs h ds rs
  | .dat d, .dat d' => some ([], d = d')
  | .vw nm o m n, .own T n' l => match geth h nm with
    | some (g, .arr T' n'' l') => some ([nm], g = true ∧ o = 0 ∧ m = l'.length ∧ T' = T ∧ n = n' ∧ n'' = n' ∧ l' = l)
    | _ => none
  | .agg l, .agg rs => retAs h l rs
  | _, _ => none
def retAs (h : Hp) : List AV → List RV → Option (List Nat × Prop)
  | [], [] => some ([], True)
  | a :: l, r :: rs => match retA h a r, retAs h l rs with
    | some (n1, p1), some (n2, p2) => some (n1 ++ n2, p1 ∧ p2)
    | _, _ => none
  | _, _ => none
def retDs (h : Hp) : List D → List RV → Option (List Nat × Prop)
  | [], [] => some ([], True)
  | d :: l, .dat d' :: rs => match retDs h l rs with
    | some (n2, p2) => some (n2, d = d' ∧ p2)
    | none => none
  | .v (.slice none 0 0) :: l, .own _ _ l' :: rs => match retDs h l rs with
    | some (n2, p2) => some (n2, l' = [] ∧ p2)
    | none => none
  | _, _ => none
end

/-- The result variables' values. -/
def resA (P : Program) (σ : St) : List ResultVar → Option (List AV × Prop)
  | [] => some ([], True)
  | .tmp t :: l => match resA P σ l with
    | some (as, p) => some (get σ.e t :: as, p)
    | none => none
  | .cell t T :: l => match vLoad P T true σ.h (get σ.e t), resA P σ l with
    | some out, some (as, p) => some (out.av :: as, out.side ∧ p)
    | _, _ => none

def Ret (P : Program) (rv : List ResultVar) (r : RV) (σ : St) : Prop :=
  match resA P σ rv with
  | none => False
  | some (as, p) => p ∧ match as, r with
    | [x], r => match retA σ.h x r with
      | some (n, q) => n.Nodup ∧ q
      | none => False
    | as, .tup rs => match retAs σ.h as rs with
      | some (n, q) => n.Nodup ∧ q
      | none => False
    | _, _ => False

def parA (ds : List D) : List (Nat × AV) := ds.zipIdx.map fun p => (p.2, .dat p.1)

section
variable {C : Ctx} {σ : St} {ι : Nat → Option (Nat × Nat)} {a : Act} {w : World}

def blocks (ι : Nat → Option (Nat × Nat)) (l : List Nat) : List Nat := l.filterMap fun k => (ι k).map (·.1)

mutual
theorem retA_rep (S : SimI C σ ι a w) : ∀ (x : AV) (r : RV) (v : Value) (n : List Nat) (p : Prop), RepA (okOf σ.h ι w) ι w x v → retA σ.h x r = some (n, p) → p →
    RepR (fun _ => True) w r v (blocks ι n) ∧ ∀ k ∈ n, ∃ y, geth σ.h k = some (true, y)
  | x, r, v, n, p, h, hr, hp => by
    unfold retA at hr
    split at hr
    · simp only [Option.some.injEq, Prod.mk.injEq] at hr
      obtain ⟨rfl, rfl⟩ := hr
      simp only [RepA, RepD] at h
      exact ⟨by simp only [RepR]; exact .inl ⟨rfl, hp, h⟩, by simp⟩
    · rename_i ds rs
      simp only [RepA, RepD] at h
      obtain ⟨vs, rfl, h⟩ := h
      obtain ⟨h1, h2⟩ := retDs_rep S ds rs vs n p h hr hp
      exact ⟨by simp only [RepR]; exact ⟨vs, rfl, h1⟩, h2⟩
    · simp only [Option.some.injEq, Prod.mk.injEq] at hr
      obtain ⟨rfl, rfl⟩ := hr
      subst hp
      simp only [RepA] at h
      exact ⟨by simp only [RepR]; exact ⟨rfl, RepD.tr (fun _ _ => trivial) (fun _ _ => rfl) _ _ h⟩, by simp⟩
    · rename_i nm oo m n0 T n' l
      split at hr
      · rename_i g T' n'' l' hh
        simp only [Option.some.injEq, Prod.mk.injEq] at hr
        obtain ⟨rfl, rfl⟩ := hr
        obtain ⟨rfl, rfl, rfl, rfl, rfl, rfl, rfl⟩ := hp
        refine ⟨?_, fun k hk => by simp only [List.mem_singleton] at hk; subst hk; exact ⟨_, hh⟩⟩
        simp only [RepA] at h
        simp only [RepR]
        rcases h with ⟨hi, rfl, _, hm⟩ | ⟨b, c, hi, rfl, hle⟩
        · exact .inl ⟨by simp [blocks, hi], List.eq_nil_of_length_eq_zero hm, rfl⟩
        · rcases S.ent nm _ hh with ⟨h1, _⟩ | ⟨b', cap, cur, h1, h2, h3, h4, h5, h6, h7⟩
          · rw [hi] at h1; cases h1
          · rw [hi] at h1; simp only [Option.some.injEq, Prod.mk.injEq] at h1
            obtain ⟨rfl, rfl⟩ := h1
            exact .inr ⟨b, c, cur, by simp [blocks, hi], by simp, h3, h4, h5, h6, RepDss.tr (fun _ _ => trivial) (fun _ _ => rfl) _ _ _ h7⟩
      · cases hr
    · rename_i l rs
      simp only [RepA] at h
      obtain ⟨vs, rfl, h⟩ := h
      obtain ⟨h1, h2⟩ := retAs_rep S true l rs vs n p h hr hp
      exact ⟨by simp only [RepR]; exact ⟨vs, rfl, h1⟩, h2⟩
    · cases hr
  termination_by x => SizeOf.sizeOf x
theorem retAs_rep (S : SimI C σ ι a w) (one : Bool) : ∀ (l : List AV) (rs : List RV) (vs : List Value) (n : List Nat) (p : Prop), RepAs (okOf σ.h ι w) ι w one l vs → retAs σ.h l rs = some (n, p) → p →
    RepRs (fun _ => True) w one rs vs (blocks ι n) ∧ ∀ k ∈ n, ∃ y, geth σ.h k = some (true, y)
  | [], [], vs, n, p, h, hr, hp => by
    simp only [retAs, Option.some.injEq, Prod.mk.injEq] at hr
    obtain ⟨rfl, _⟩ := hr
    simp only [RepAs] at h
    exact ⟨by simp [RepRs, h, blocks], by simp⟩
  | x :: l, r :: rs, vs, n, p, h, hr, hp => by
    simp only [retAs] at hr
    split at hr
    · rename_i n1 p1 n2 p2 h1 h2
      simp only [Option.some.injEq, Prod.mk.injEq] at hr
      obtain ⟨rfl, rfl⟩ := hr
      simp only [RepAs] at h
      obtain ⟨v, vs', rfl, h3, h4, h5⟩ := h
      obtain ⟨q1, q2⟩ := retA_rep S x r v n1 p1 h3 h1 hp.1
      obtain ⟨q3, q4⟩ := retAs_rep S one l rs vs' n2 p2 h5 h2 hp.2
      refine ⟨?_, fun k hk => ?_⟩
      · simp only [RepRs]
        exact ⟨v, vs', blocks ι n1, blocks ι n2, rfl, by simp [blocks], q1, h4, q3⟩
      · simp only [List.mem_append] at hk
        rcases hk with hk | hk
        · exact q2 k hk
        · exact q4 k hk
    · cases hr
  | [], _ :: _, vs, n, p, h, hr, hp => by simp [retAs] at hr
  | _ :: _, [], vs, n, p, h, hr, hp => by simp [retAs] at hr
  termination_by l => SizeOf.sizeOf l
theorem retDs_rep (S : SimI C σ ι a w) : ∀ (l : List D) (rs : List RV) (vs : List Value) (n : List Nat) (p : Prop), RepDs (okOf σ.h ι w) w l vs → retDs σ.h l rs = some (n, p) → p →
    RepRs (fun _ => True) w true rs vs (blocks ι n) ∧ ∀ k ∈ n, ∃ y, geth σ.h k = some (true, y)
  | l, rs, vs, n, p, h, hr, hp => by
    unfold retDs at hr
    split at hr
    · simp only [Option.some.injEq, Prod.mk.injEq] at hr
      obtain ⟨rfl, _⟩ := hr
      simp only [RepDs] at h
      exact ⟨by simp [RepRs, h, blocks], by simp⟩
    · rename_i d l d' rs
      split at hr
      · rename_i n2 p2 h2
        simp only [Option.some.injEq, Prod.mk.injEq] at hr
        obtain ⟨rfl, rfl⟩ := hr
        obtain ⟨rfl, hp⟩ := hp
        simp only [RepDs] at h
        obtain ⟨v, vs', rfl, h3, h4, h5⟩ := h
        obtain ⟨q3, q4⟩ := retDs_rep S l rs vs' n2 p2 h5 h2 hp
        refine ⟨?_, q4⟩
        simp only [RepRs, RepR]
        exact ⟨v, vs', [], blocks ι n2, rfl, by simp, ⟨rfl, RepD.tr (fun _ _ => trivial) (fun _ _ => rfl) _ _ h3⟩, fun _ => h4, q3⟩
      · cases hr
    · rename_i l T n' l' rs
      split at hr
      · rename_i n2 p2 h2
        simp only [Option.some.injEq, Prod.mk.injEq] at hr
        obtain ⟨rfl, rfl⟩ := hr
        obtain ⟨rfl, hp⟩ := hp
        simp only [RepDs, RepD] at h
        obtain ⟨v, vs', rfl, rfl, h4, h5⟩ := h
        obtain ⟨q3, q4⟩ := retDs_rep S l rs vs' n2 p2 h5 h2 hp
        refine ⟨?_, q4⟩
        simp only [RepRs, RepR]
        exact ⟨_, vs', [], blocks ι n2, rfl, by simp, by simp, fun _ => h4, q3⟩
      · cases hr
    · cases hr
  termination_by l => SizeOf.sizeOf l
end
end
end Go.Eng
