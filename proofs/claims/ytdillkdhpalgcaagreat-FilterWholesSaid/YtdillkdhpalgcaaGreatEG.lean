import Derived.Test.YtdillkdhpalgcaaGreatEF
set_option linter.unusedSimpArgs false
set_option linter.unusedVariables false
set_option linter.unusedSimpArgs false
set_option linter.unusedVariables false
namespace Go.Eng
open Go.RowKit

structure ZC where
  as : List AV
  h0 : Hp
  pins : List Nat
  news : List Nat
  β : Type
  q : β → Prop
  r : β → AV
  h1 : β → Hp

def X0 (h0 : Hp) (ι : Nat → Option (Nat × Nat)) (b : Nat) : Prop := ∃ nm x c, geth h0 nm = some (true, x) ∧ ι nm = some (b, c)
def Inj (h : Hp) (ι : Nat → Option (Nat × Nat)) : Prop := ∀ nm nm' x x' b c c', geth h nm = some (true, x) → geth h nm' = some (true, x') → nm ≠ nm' → ι nm = some (b, c) → ι nm' ≠ some (b, c')
def FZ (w : World) (X G : Nat → Prop) (b : Nat) : Prop := G b ∧ b < w.heap.size ∧ ¬ X b

def FnZ (P : Program) (f : FuncId) (Z : ZC) : Prop :=
  ∀ (w : World) (vs : Array Value) (ι : Nat → Option (Nat × Nat)) (G : Nat → Prop),
    (∀ nm x, geth Z.h0 nm = some (true, x) → EntOk (· < w.heap.size) (okOf (FZ w (X0 Z.h0 ι) G) Z.h0 ι w) ι w nm x) → Inj Z.h0 ι →
    RepAs (okOf (FZ w (X0 Z.h0 ι) G) Z.h0 ι w) ι w false Z.as vs.toList →
    Calls P f vs w fun e w' => ∃ v y ι', e = .returned v ∧ Z.q y ∧ (w'.os = w.os ∧ w'.tape = w.tape ∧ w'.output = w.output ∧ w.heap.size ≤ w'.heap.size) ∧
      (∀ b, b < w.heap.size → ¬ X0 Z.h0 ι b → w'.heap[b]? = w.heap[b]?) ∧ (∀ nm ∈ Z.pins, ι' nm = ι nm) ∧
      (∀ nm x, geth (Z.h1 y) nm = some (true, x) → EntOk (fun b => w.heap.size ≤ b ∨ X0 Z.h0 ι b) (okOf (FZ w (X0 Z.h0 ι) G) (Z.h1 y) ι' w') ι' w' nm x) ∧ Inj (Z.h1 y) ι' ∧
      RepA (okOf (FZ w (X0 Z.h0 ι) G) (Z.h1 y) ι' w') ι' w' (Z.r y) v

def pinA (pins : List Nat) (u : Value) : AV → AV
  | .vw nm o m n => bif pins.contains nm then .pin u (.vw nm o m n) else .vw nm o m n
  | .pt nm o => bif pins.contains nm then .pin u (.pt nm o) else .pt nm o
  | a => a
def pinZ (pins : List Nat) (u : Nat → Value) (i : Nat) : List AV → List (Nat × AV)
  | [] => []
  | a :: l => (i, pinA pins (u i) a) :: pinZ pins u (i + 1) l
def isBx : Option (Bool × Ent) → Prop
  | some (g, .box _ _) => g = true
  | _ => False
def pinOk (u : Nat → Value) (σ : St) (ρ : List (Nat × Option Nat)) (h0 : Hp) (nm : Nat) (i : Nat) : List AV → Prop
  | [] => False
  | .vw k o m n :: l => bif k == nm then isPin (u i) (.vw k o m n) (get σ.e i) ∧ lk ρ nm = some nm else pinOk u σ ρ h0 nm (i + 1) l
  | .pt k o :: l => bif k == nm then isPin (u i) (.pt k o) (get σ.e i) ∧ lk ρ nm = some nm ∧ isBx (geth h0 nm) ∧ isBx (geth σ.h nm) else pinOk u σ ρ h0 nm (i + 1) l
  | _ :: l => pinOk u σ ρ h0 nm (i + 1) l
def pinsOk (u : Nat → Value) (σ : St) (ρ : List (Nat × Option Nat)) (h0 : Hp) (as : List AV) : List Nat → Prop
  | [] => True
  | nm :: l => pinOk u σ ρ h0 nm 0 as ∧ pinsOk u σ ρ h0 as l
def oneA : List AV → AV
  | [x] => x
  | l => .tup l
def EndZ (P : Program) (rv : List ResultVar) (pins : List Nat) (as : List AV) (h0 : Hp) (u : Nat → Value) (r : AV) (h1 : Hp) (ρ : List (Nat × Option Nat)) (σ : St) : Prop :=
  match resA P σ rv with
  | none => False
  | some (xs, p) => p ∧ noDup (imgs ρ h1) = true ∧ leHp ρ σ.h (imgs ρ h1) h1 ∧ leA ρ σ.h (imgs ρ h1) (oneA xs) r ∧ pinsOk u σ ρ h0 as pins
def RetZ (P : Program) (rv : List ResultVar) (Z : ZC) (u : Nat → Value) (σ : St) : Prop := ∃ (y : Z.β) (ρ : List (Nat × Option Nat)), Z.q y ∧ EndZ P rv Z.pins Z.as Z.h0 u (Z.r y) (Z.h1 y) ρ σ

section
variable {ok : Nat → Prop} {ι : Nat → Option (Nat × Nat)} {w : World}
theorem pinA_rep {pins : List Nat} {a : AV} {v : Value} (h : RepA ok ι w a v) : RepA ok ι w (pinA pins v a) v := by
  unfold pinA
  split
  · cases pins.contains _ <;> simp only [cond_true, cond_false]
    · exact h
    · simp only [RepA] at h ⊢; exact ⟨trivial, h⟩
  · cases pins.contains _ <;> simp only [cond_true, cond_false]
    · exact h
    · simp only [RepA] at h ⊢; exact ⟨trivial, h⟩
  · exact h
theorem pinZ_rep {pins : List Nat} {u : Nat → Value} : ∀ {l : List AV} {i : Nat} {vs : List Value}, RepAs ok ι w false l vs → (∀ j v, vs[j]? = some v → u (i + j) = v) →
    ∀ s, RepA ok ι w (get (pinZ pins u i l) s) (u s)
  | [], i, vs, h, hu, s => by simp only [pinZ, get, RepA]
  | a :: l, i, vs, h, hu, s => by
    simp only [RepAs] at h
    obtain ⟨v, vs', rfl, h1, _, h⟩ := h
    have ih := pinZ_rep (pins := pins) h (u := u) (i := i + 1) (fun j v hv => by have := hu (j + 1) v (by simpa using hv); rw [← this]; congr 1; omega) s
    have hv : u i = v := hu 0 v (by simp)
    simp only [pinZ, get]
    cases hs : i == s
    · simpa only [cond_false] using ih
    · simp only [cond_true]
      have : i = s := by simpa using hs
      subst this
      rw [hv]; exact pinA_rep h1
theorem pinOk_eq {C : Ctx} {σ : St} {ιe ι0 : Nat → Option (Nat × Nat)} {a : Act} {w' w0 : World} {ok0 : Nat → Prop} {u : Nat → Value} {ρ : List (Nat × Option Nat)} {h0 : Hp} {nm : Nat} (S : SimI C σ ιe a w')
    (hz : ∀ T c b cap, geth h0 nm = some (true, .box T c) → ι0 nm = some (b, cap) → cap = 0) :
    ∀ {l : List AV} {i : Nat} {vs : List Value}, RepAs ok0 ι0 w0 false l vs → (∀ j v, vs[j]? = some v → u (i + j) = v) → pinOk u σ ρ h0 nm i l → lk ρ nm = some nm ∧ ιe nm = ι0 nm
  | [], i, vs, h, hu, hp => by simp only [pinOk] at hp
  | A :: l, i, vs, h, hu, hp => by
    simp only [RepAs] at h
    obtain ⟨v, vs', rfl, h1, _, h⟩ := h
    have hv : u i = v := hu 0 v (by simp)
    have hu' : ∀ j v, vs'[j]? = some v → u (i + 1 + j) = v := fun j v hv => by have := hu (j + 1) v (by simpa using hv); rw [← this]; congr 1; omega
    unfold pinOk at hp
    split at hp
    · rename_i e; cases e
    · rename_i k o m n l' e
      simp only [List.cons.injEq] at e
      obtain ⟨rfl, rfl⟩ := e
      cases hk : k == nm
      · rw [hk, cond_false] at hp; exact pinOk_eq S hz h hu' hp
      · rw [hk, cond_true] at hp
        simp only [beq_iff_eq] at hk; subst hk
        refine ⟨hp.2, ?_⟩
        cases hg : get σ.e i with
        | pin u' B =>
          rw [hg] at hp
          simp only [isPin] at hp
          obtain ⟨⟨rfl, rfl⟩, _⟩ := hp
          have he := S.env i
          rw [hg] at he
          simp only [RepA] at he h1
          obtain ⟨he, hr⟩ := he
          rw [he, hv] at hr
          rcases hr with ⟨e1, e2, _⟩ | ⟨b, c, e1, e2, e3⟩
          · rcases h1 with ⟨f1, f2, _⟩ | ⟨b', c', f1, f2, f3⟩
            · rw [e1, f1]
            · rw [e2] at f2; simp at f2
          · rcases h1 with ⟨f1, f2, _⟩ | ⟨b', c', f1, f2, f3⟩
            · rw [e2] at f2; simp at f2
            · rw [e2] at f2
              simp only [Value.slice.injEq, Option.some.injEq, Addr.mk.injEq] at f2
              rw [e1, f1]
              congr 2
              · exact f2.1.1
              · omega
        | _ => rw [hg] at hp; exact hp.1.elim
    · rename_i k o l' e
      simp only [List.cons.injEq] at e
      obtain ⟨rfl, rfl⟩ := e
      cases hk : k == nm
      · rw [hk, cond_false] at hp; exact pinOk_eq S hz h hu' hp
      · rw [hk, cond_true] at hp
        simp only [beq_iff_eq] at hk; subst hk
        refine ⟨hp.2.1, ?_⟩
        cases hg : get σ.e i with
        | pin u' B =>
          rw [hg] at hp
          simp only [isPin] at hp
          obtain ⟨⟨rfl, rfl⟩, _, hb0, hb1⟩ := hp
          have he := S.env i
          rw [hg] at he
          simp only [RepA] at he h1
          obtain ⟨he, hr⟩ := he
          rw [he, hv] at hr
          obtain ⟨b, c, e1, e2⟩ := hr
          obtain ⟨b', c', f1, f2⟩ := h1
          rw [e2] at f2
          simp only [Value.pointer.injEq, Option.some.injEq, Addr.mk.injEq] at f2
          have c0 : c = 0 := by
            unfold isBx at hb1
            split at hb1
            · rename_i g T cc hgg
              subst hb1
              obtain ⟨b2, cap, cur, k1, k2, _⟩ := S.ent k _ hgg
              rw [e1] at k1; simp only [Option.some.injEq, Prod.mk.injEq] at k1
              rw [k1.2]; exact k2.2
            · exact hb1.elim
          have c0' : c' = 0 := by
            unfold isBx at hb0
            split at hb0
            · rename_i g T cc hgg
              subst hb0
              exact hz T cc b' c' hgg f1
            · exact hb0.elim
          rw [e1, f1, c0, c0', f2.1]
        | _ => rw [hg] at hp; exact hp.1.elim
    · rename_i A' l' _ _ e
      simp only [List.cons.injEq] at e
      obtain ⟨rfl, rfl⟩ := e
      exact pinOk_eq S hz h hu' hp
theorem pinsOk_mem {u : Nat → Value} {σ : St} {ρ : List (Nat × Option Nat)} {h0 : Hp} {as : List AV} : ∀ {l : List Nat}, pinsOk u σ ρ h0 as l → ∀ nm ∈ l, pinOk u σ ρ h0 nm 0 as
  | [], _, nm, hm => by simp at hm
  | k :: l, h, nm, hm => by
    simp only [pinsOk] at h
    simp only [List.mem_cons] at hm
    rcases hm with rfl | hm
    · exact h.1
    · exact pinsOk_mem h.2 nm hm
end

theorem FnZ.of {P : Program} {f : FuncId} {fn : Func} {c : Code} {Z : ZC} (hf : P.funcs[f]? = some fn) (hb : fn.body = some c) (hl : Z.as.length ≤ fn.ntmps)
    (h : ∀ w0 X G u, WA ⟨P, w0, X, fn.ntmps, G⟩ c (RetZ P fn.results.toList Z u) (RetZ P fn.results.toList Z u) (fun _ _ => False) ⟨pinZ Z.pins u 0 Z.as, Z.h0⟩) : FnZ P f Z := by
  intro w vs ι G hent hinj hargs
  have hlen := RepAs_length hargs
  simp only [Array.length_toList] at hlen
  let X : Nat → Prop := X0 Z.h0 ι
  let u : Nat → Value := fun s => (vs ++ Array.replicate (fn.ntmps - vs.size) undef).getD s undef
  have hu : ∀ j v, vs.toList[j]? = some v → u (0 + j) = v := by
    intro j v hv
    have hs : j < vs.size := by
      have := (List.getElem?_eq_some_iff.1 hv).1
      simpa using this
    simp only [Array.getElem?_toList] at hv
    simp [u, Array.getD_eq_getD_getElem?, Array.getElem?_append_left hs, hv]
  have S0 : SimI ⟨P, w, X, fn.ntmps, G⟩ ⟨pinZ Z.pins u 0 Z.as, Z.h0⟩ ι { tmps := vs ++ Array.replicate (fn.ntmps - vs.size) undef, defers := [] } w := by
    refine ⟨fun s => pinZ_rep hargs hu s, fun nm x hx => ?_, hinj, rfl, rfl, rfl, Nat.le_refl _, fun _ _ _ => rfl, rfl, by simp; omega⟩
    have E := hent nm x hx
    cases x with
    | box T c =>
      obtain ⟨b, cap, cur, h1, h2, h3, h4⟩ := E
      exact ⟨b, cap, cur, h1, ⟨.inr ⟨nm, _, cap, hx, h1⟩, h2.2⟩, h3, h4⟩
    | arr T n l =>
      rcases E with ⟨h1, h2⟩ | ⟨b, cap, cur, h1, h2, h3, h4, h5, h6, h7⟩
      · exact .inl ⟨h1, h2⟩
      · exact .inr ⟨b, cap, cur, h1, .inr ⟨nm, _, cap, hx, h1⟩, h3, h4, h5, h6, h7⟩
  refine calls_of_wp hf hb (wp_mono ((h w X G u).app _ w ⟨_, S0⟩) fun e a w' hq => ?_)
  have key : ∀ σ, RetZ P fn.results.toList Z u σ → Sim ⟨P, w, X, fn.ntmps, G⟩ σ a w' → a.defers = [] ∧ ∃ v, (results fn a.tmps).run P w' = .ok v w' ∧ ∃ v' y ι', Ending.returned v = .returned v' ∧ Z.q y ∧ (w'.os = w.os ∧ w'.tape = w.tape ∧ w'.output = w.output ∧ w.heap.size ≤ w'.heap.size) ∧
      (∀ b, b < w.heap.size → ¬ X0 Z.h0 ι b → w'.heap[b]? = w.heap[b]?) ∧ (∀ nm ∈ Z.pins, ι' nm = ι nm) ∧
      (∀ nm x, geth (Z.h1 y) nm = some (true, x) → EntOk (fun b => w.heap.size ≤ b ∨ X0 Z.h0 ι b) (okOf (FZ w (X0 Z.h0 ι) G) (Z.h1 y) ι' w') ι' w' nm x) ∧ Inj (Z.h1 y) ι' ∧
      RepA (okOf (FZ w (X0 Z.h0 ι) G) (Z.h1 y) ι' w') ι' w' (Z.r y) v' := by
    intro σ ⟨y, ρ, hq, hend⟩ S
    obtain ⟨ιe, S⟩ := S
    refine ⟨S.def0, ?_⟩
    unfold EndZ at hend
    split at hend
    · exact hend.elim
    · rename_i xs p hxs
      obtain ⟨hp, hnd, hle, hleA, hpins⟩ := hend
      obtain ⟨vals, hv1, hv2⟩ := resA_rep S fn.results.toList xs p hxs hp
      have hv1' : (fn.results.toList.mapM fun (x : ResultVar) => (match x with | .tmp t => pure (a.tmps.getD t undef) | .cell t T => do loadVar T (← asAddr (a.tmps.getD t undef)) : Sem Value)).run P w' = .ok vals w' := hv1
      have hres : (results fn a.tmps).run P w' = .ok (if h : vals.toArray.size = 1 then vals.toArray[0] else .tuple vals.toArray) w' := by
        unfold results
        simp only [Array.mapM_eq_mapM_toList, Sem.run_bind]
        have h2 : (do let r ← fn.results.toList.mapM fun (x : ResultVar) => (match x with | .tmp t => pure (a.tmps.getD t undef) | .cell t T => do loadVar T (← asAddr (a.tmps.getD t undef)) : Sem Value); pure r.toArray : Sem (Array Value)).run P w' = .ok vals.toArray w' := by
          simp only [Sem.run_bind, hv1', Result.andThen_ok, Sem.run_pure]
        have h3 : (List.toArray <$> fn.results.toList.mapM fun (x : ResultVar) => (match x with | .tmp t => pure (a.tmps.getD t undef) | .cell t T => do loadVar T (← asAddr (a.tmps.getD t undef)) : Sem Value)).run P w' = .ok vals.toArray w' := h2
        refine (congrArg (fun r => Result.andThen r _) h3).trans ?_
        simp only [Result.andThen_ok, Sem.run_pure]
      have hs : Sub ρ σ ⟨[], Z.h1 y⟩ := ⟨hnd, hle, trivial⟩
      have S' := Sub.simI S hs
      have hone : ∃ v, (results fn a.tmps).run P w' = .ok v w' ∧ RepA (okOf (Ctx.F ⟨P, w, X, fn.ntmps, G⟩) σ.h ιe w') ιe w' (oneA xs) v := by
        unfold oneA
        split
        · simp only [RepAs] at hv2
          obtain ⟨v, vs', rfl, hx, _, rfl⟩ := hv2
          exact ⟨v, by rw [hres]; simp, hx⟩
        · rename_i hne
          have hlv := RepAs_length hv2
          have hn1 : ¬ vals.length = 1 := by
            intro h1
            rw [hlv] at h1
            obtain ⟨x, hx⟩ := List.length_eq_one_iff.1 h1
            exact hne x hx
          exact ⟨.tuple vals.toArray, by rw [hres]; simp [hn1], by simp only [RepA]; exact ⟨vals, rfl, hv2⟩⟩
      obtain ⟨v, hrun, hrep⟩ := hone
      refine ⟨v, hrun, v, y, mv ρ ιe, rfl, hq, ⟨S.os, S.tape, S.output, S.size⟩, S.old, fun nm hm => ?_, S'.ent, S'.inj, leA_rep S hs _ _ _ hleA hrep⟩
      have hk := pinOk_eq (ι0 := ι) S (fun T c b cap hg hi => by
        obtain ⟨b', cap', cur, k1, k2, _⟩ := hent nm _ hg
        rw [hi] at k1; simp only [Option.some.injEq, Prod.mk.injEq] at k1
        rw [k1.2]; exact k2.2) hargs hu (pinsOk_mem hpins nm hm)
      unfold mv
      rw [hk.1]; exact hk.2
  cases e with
  | normal => obtain ⟨σ, h1, h2⟩ := hq; exact key σ h1 h2
  | ret => obtain ⟨σ, h1, h2⟩ := hq; exact key σ h1 h2
  | exit i => obtain ⟨σ, h1, h2⟩ := hq; exact h1.elim
  | goto l => exact hq.elim
  | panic ch => exact hq.elim
  | outgrown => exact hq.elim
theorem FnZ.by {P : Program} {f : FuncId} {fn : Func} {Z : ZC} (n : Nat) (rv : List ResultVar) (hf : P.funcs[f]? = some fn) (hb : fn.body = some (fcd fn [])) (hn : fn.ntmps = n) (hrv : fn.results.toList = rv) (hl : Z.as.length ≤ n)
    (h : ∀ w0 X G u, WA ⟨P, w0, X, n, G⟩ (fcd fn []) (RetZ P rv Z u) (RetZ P rv Z u) (fun _ _ => False) ⟨pinZ Z.pins u 0 Z.as, Z.h0⟩) : FnZ P f Z := by
  subst hn hrv
  exact FnZ.of hf hb hl h
theorem V_retZ {P : Program} {rv : List ResultVar} {Z : ZC} {u : Nat → Value} {σ : St} (ρ : List (Nat × Option Nat)) (y : Z.β) (h : Ev (EndZ P rv Z.pins Z.as Z.h0 u (Z.r y) (Z.h1 y) ρ σ)) (hq : Z.q y) : RetZ P rv Z u σ := ⟨y, ρ, hq, h.out⟩
end Go.Eng

set_option linter.unusedSimpArgs false
set_option linter.unusedVariables false
namespace Go.Eng
open Go.RowKit

mutual
def renA (ρ : Nat → Nat) : AV → AV
  | .un => .un
  | .dat d => .dat d
  | .agg l => .agg (renAs ρ l)
  | .tup l => .tup (renAs ρ l)
  | .rp l => .rp l
  | .pt nm o => .pt (ρ nm) o
  | .ep nm k f n => .ep (ρ nm) k f n
  | .vw nm o m n => .vw (ρ nm) o m n
  | .gd g x => .gd g (renA ρ x)
  | .pin u x => .pin u (renA ρ x)
  | .cl f l => .cl f (renAs ρ l)
def renAs (ρ : Nat → Nat) : List AV → List AV
  | [] => []
  | a :: l => renA ρ a :: renAs ρ l
end
def renE (ρ : Nat → Nat) : Ent → Ent
  | .box T c => .box T (renAs ρ c)
  | .arr T n l => .arr T n l
def renH (ρ : Nat → Nat) : Hp → Hp
  | [] => []
  | (k, some (g, x)) :: l => (ρ k, some (g, renE ρ x)) :: renH ρ l
  | (k, none) :: l => renH ρ l
def lkr : List (Nat × Nat) → Nat → Nat
  | [], k => k
  | (j, x) :: l, k => bif j == k then x else lkr l k
section
variable {ok : Nat → Prop} {ι : Nat → Option (Nat × Nat)} {w : World} {ρ : Nat → Nat}
mutual
theorem renA_rep : ∀ (a : AV) (v : Value), RepA ok ι w (renA ρ a) v ↔ RepA ok (fun k => ι (ρ k)) w a v
  | .un, v => by simp only [renA, RepA]
  | .dat d, v => by simp only [renA, RepA]
  | .agg l, v => by simp only [renA, RepA, renAs_rep true l]
  | .tup l, v => by simp only [renA, RepA, renAs_rep false l]
  | .rp l, v => by simp only [renA, RepA]
  | .pt nm o, v => by simp only [renA, RepA]
  | .ep nm k f n, v => by simp only [renA, RepA]
  | .vw nm o m n, v => by simp only [renA, RepA]
  | .gd g x, v => by simp only [renA, RepA, renA_rep x]
  | .pin u x, v => by simp only [renA, RepA, renA_rep x]
  | .cl f l, v => by simp only [renA, RepA, renAs_rep false l]
theorem renAs_rep (one : Bool) : ∀ (l : List AV) (vs : List Value), RepAs ok ι w one (renAs ρ l) vs ↔ RepAs ok (fun k => ι (ρ k)) w one l vs
  | [], vs => by simp only [renAs, RepAs]
  | a :: l, vs => by simp only [renAs, RepAs, renA_rep a, renAs_rep one l]
end
theorem renE_ok {own : Nat → Prop} {nm : Nat} : ∀ (x : Ent), EntOk own ok ι w (ρ nm) (renE ρ x) ↔ EntOk own ok (fun k => ι (ρ k)) w nm x
  | .box T c => by simp only [renE, EntOk, renAs_rep]
  | .arr T n l => by simp only [renE, EntOk]
end
mutual
def clA (L : List Nat) : AV → Bool
  | .agg l => clAs L l
  | .tup l => clAs L l
  | .pt nm _ => L.contains nm
  | .ep nm _ _ _ => L.contains nm
  | .vw nm _ _ _ => L.contains nm
  | .gd _ x => clA L x
  | .pin _ x => clA L x
  | .cl _ l => clAs L l
  | _ => true
def clAs (L : List Nat) : List AV → Bool
  | [] => true
  | a :: l => clA L a && clAs L l
end
def clE (L : List Nat) : Ent → Bool
  | .box _ c => clAs L c
  | .arr .. => true
def clH (L : List Nat) : Hp → Bool
  | [] => true
  | (k, some (g, x)) :: l => g && L.contains k && clE L x && clH L l
  | (_, none) :: _ => false
def namesH : Hp → List Nat
  | [] => []
  | (k, _) :: l => k :: namesH l
mutual
theorem clA_refs {L : List Nat} : ∀ {a : AV}, clA L a = true → ∀ nm, a.refs nm = true → nm ∈ L
  | .agg l, h, nm, hr => by simp only [clA] at h; simp only [AV.refs] at hr; exact clAs_refs h nm hr
  | .tup l, h, nm, hr => by simp only [clA] at h; simp only [AV.refs] at hr; exact clAs_refs h nm hr
  | .pt k _, h, nm, hr | .ep k _ _ _, h, nm, hr | .vw k _ _ _, h, nm, hr => by
    simp only [clA] at h; simp only [AV.refs, beq_iff_eq] at hr; subst hr; simpa using h
  | .gd _ x, h, nm, hr => by simp only [clA] at h; simp only [AV.refs] at hr; exact clA_refs h nm hr
  | .pin _ x, h, nm, hr => by simp only [clA] at h; simp only [AV.refs] at hr; exact clA_refs h nm hr
  | .cl _ l, h, nm, hr => by simp only [clA] at h; simp only [AV.refs] at hr; exact clAs_refs h nm hr
  | .un, _, nm, hr | .dat _, _, nm, hr | .rp _, _, nm, hr => by simp [AV.refs] at hr
theorem clAs_refs {L : List Nat} : ∀ {l : List AV}, clAs L l = true → ∀ nm, AV.refsL nm l = true → nm ∈ L
  | [], h, nm, hr => by simp [AV.refsL] at hr
  | a :: l, h, nm, hr => by
    simp only [clAs, Bool.and_eq_true] at h
    simp only [AV.refsL, Bool.or_eq_true] at hr
    rcases hr with hr | hr
    · exact clA_refs h.1 nm hr
    · exact clAs_refs h.2 nm hr
end
theorem clE_refs {L : List Nat} {x : Ent} (h : clE L x = true) (nm : Nat) (hr : x.refs nm = true) : nm ∈ L := by
  cases x with
  | box T c => simp only [clE] at h; simp only [Ent.refs] at hr; exact clAs_refs h nm hr
  | arr T n l => simp [Ent.refs] at hr
theorem clH_get {L : List Nat} : ∀ {h : Hp} {k : Nat} {p : Bool × Ent}, clH L h = true → geth h k = some p → k ∈ L ∧ clE L p.2 = true ∧ p.1 = true
  | [], k, p, _, hg => by simp [geth] at hg
  | (j, some (g, x)) :: l, k, p, hc, hg => by
    simp only [clH, Bool.and_eq_true] at hc
    simp only [geth] at hg
    cases hj : j == k
    · rw [hj, cond_false] at hg; exact clH_get hc.2 hg
    · rw [hj, cond_true] at hg
      simp only [Option.some.injEq] at hg; subst hg
      simp only [beq_iff_eq] at hj; subst hj
      exact ⟨by simpa using hc.1.1.2, hc.1.2, hc.1.1.1⟩
  | (j, none) :: l, k, p, hc, hg => by simp [clH] at hc
theorem renH_get {ρ : Nat → Nat} {L : List Nat} {H : Hp} {c : Nat} {p : Bool × Ent} : ∀ {h : Hp}, clH L h = true → (∀ i ∈ L, ∀ j ∈ L, ρ i = ρ j → i = j) → geth (renH ρ h ++ H) c = some p →
    (∃ k x, c = ρ k ∧ k ∈ L ∧ geth h k = some (true, x) ∧ p = (true, renE ρ x)) ∨ ((∀ k ∈ namesH h, ρ k ≠ c) ∧ geth H c = some p)
  | [], _, _, hg => .inr ⟨by simp [namesH], by simpa [renH] using hg⟩
  | (k, some (g, x)) :: l, hc, hi, hg => by
    simp only [clH, Bool.and_eq_true] at hc
    have hkL : k ∈ L := by simpa using hc.1.1.2
    simp only [renH, List.cons_append, geth] at hg
    cases hk : ρ k == c
    · rw [hk, cond_false] at hg
      have hne : ρ k ≠ c := by simpa using hk
      rcases renH_get hc.2 hi hg with ⟨k', x', e1, e2, e3, e4⟩ | ⟨e1, e2⟩
      · refine .inl ⟨k', x', e1, e2, ?_, e4⟩
        have : (k == k') = false := by
          simp only [beq_eq_false_iff_ne, ne_eq]
          rintro rfl; exact hne e1.symm
        simp only [geth, this, cond_false]; exact e3
      · refine .inr ⟨fun j hj => ?_, e2⟩
        simp only [namesH, List.mem_cons] at hj
        rcases hj with rfl | hj
        · exact hne
        · exact e1 j hj
    · rw [hk, cond_true] at hg
      simp only [Option.some.injEq] at hg; subst hg
      have e := hc.1.1.1
      subst e
      exact .inl ⟨k, x, by simpa using Eq.symm (by simpa using hk), hkL, by simp [geth], rfl⟩
  | (k, none) :: l, hc, _, _ => by simp [clH] at hc
def matchH (h : Hp) (R : List (Nat × Nat)) : Hp → Prop
  | [] => True
  | (k, some (g, x)) :: l => (match geth h (lkr R k) with
      | some (g', x') => g' = true ∧ x' = renE (lkr R) x
      | none => False) ∧ matchH h R l
  | (_, none) :: _ => False
theorem matchH_get {h : Hp} {R : List (Nat × Nat)} : ∀ {h0 : Hp}, matchH h R h0 → ∀ {k : Nat} {x : Ent}, geth h0 k = some (true, x) → geth h (lkr R k) = some (true, renE (lkr R) x) ∧ k ∈ namesH h0
  | [], _, k, x, hg => by simp [geth] at hg
  | (j, some (g, y)) :: l, hm, k, x, hg => by
    simp only [matchH] at hm
    simp only [geth] at hg
    cases hj : j == k
    · rw [hj, cond_false] at hg
      have := matchH_get hm.2 hg
      exact ⟨this.1, by simp [namesH, this.2]⟩
    · rw [hj, cond_true] at hg
      simp only [beq_iff_eq] at hj; subst hj
      simp only [Option.some.injEq, Prod.mk.injEq] at hg
      obtain ⟨rfl, rfl⟩ := hg
      have h1 := hm.1
      split at h1
      · rename_i g' x' e
        obtain ⟨rfl, rfl⟩ := h1
        exact ⟨e, by simp [namesH]⟩
      · exact h1.elim
  | (j, none) :: l, hm, k, x, hg => by simp [matchH] at hm
def newN (d : Nat) : Nat → List Nat → List (Nat × Nat)
  | _, [] => []
  | i, k :: l => (k, 10000 + 100 * d + i) :: newN d (i + 1) l
def drops (R : List (Nat × Nat)) : List Nat → Hp
  | [] => []
  | k :: l => (lkr R k, none) :: drops R l
def inL (A B : List Nat) : Bool := A.all fun k => B.contains k
def outL (A B : List Nat) : Bool := A.all fun k => !B.contains k
def freeL (A : List Nat) (h : Hp) : Bool := A.all fun k => (geth h k).isNone
def snds (l : List (Nat × Nat)) : List Nat := l.map fun p => p.2
def RRof (d : Nat) (Z : ZC) (R : List (Nat × Nat)) : List (Nat × Nat) := newN d 0 Z.news ++ R
def hpZ (d : Nat) (Z : ZC) (R : List (Nat × Nat)) (y : Z.β) (h : Hp) : Hp := renH (lkr (RRof d Z R)) (Z.h1 y) ++ (drops R (namesH Z.h0) ++ h)
def chkZ (d : Nat) (Z : ZC) (R : List (Nat × Nat)) (σ : St) : Bool :=
  noDup ((namesH Z.h0).map (lkr R)) && noDup (namesH Z.h0) && freshR σ (10000 + 100 * d) Z.news.length && decide (Z.news.length ≤ 100) && noDup (Z.pins ++ Z.news) && inL Z.pins (namesH Z.h0) && outL (snds (newN d 0 Z.news)) ((namesH Z.h0).map (lkr R)) && freeL (snds (newN d 0 Z.news)) σ.h
def sideZ (P : Program) (f : FuncId) (d : Nat) (Z : ZC) (R : List (Nat × Nat)) (σ : St) (as : List AV) : Prop :=
  pkl true as ∧ as.map sp = renAs (lkr R) Z.as ∧ matchH σ.h R Z.h0 ∧ (∀ y, clH (Z.pins ++ Z.news) (Z.h1 y) = true ∧ clA (Z.pins ++ Z.news) (Z.r y) = true) ∧ FnZ P f Z
end Go.Eng

set_option linter.unusedSimpArgs false
set_option linter.unusedVariables false
namespace Go.Eng
open Go.RowKit

def bkN : List (Nat × Nat) → Nat → Option Nat
  | [], _ => none
  | (k, c) :: l, x => bif c == x then some k else bkN l x
theorem bkN_none : ∀ {l : List (Nat × Nat)} {x : Nat}, x ∉ snds l → bkN l x = none
  | [], x, _ => rfl
  | (k, c) :: l, x, h => by
    simp only [snds, List.map_cons, List.mem_cons, not_or] at h
    have : (c == x) = false := by simpa using fun e : c = x => h.1 e.symm
    simp only [bkN, this, cond_false]
    exact bkN_none h.2
theorem bkN_mem : ∀ {l : List (Nat × Nat)} {x k : Nat}, bkN l x = some k → x ∈ snds l
  | [], x, k, h => by simp [bkN] at h
  | (j, c) :: l, x, k, h => by
    simp only [bkN] at h
    cases hc : c == x
    · rw [hc, cond_false] at h
      simp only [snds, List.map_cons, List.mem_cons]; exact .inr (bkN_mem h)
    · simp only [beq_iff_eq] at hc
      simp [snds, hc]
theorem newN_mem {d : Nat} : ∀ {l : List Nat} {i c : Nat}, c ∈ snds (newN d i l) → 10000 + 100 * d + i ≤ c ∧ c < 10000 + 100 * d + i + l.length
  | [], i, c, h => by simp [snds, newN] at h
  | k :: l, i, c, h => by
    simp only [newN, snds, List.map_cons, List.mem_cons] at h
    rcases h with rfl | h
    · simp only [List.length_cons]; omega
    · have := newN_mem (d := d) (l := l) (i := i + 1) h
      simp only [List.length_cons]; omega
theorem newN_lk {d : Nat} {R : List (Nat × Nat)} : ∀ {l : List Nat} {i k : Nat}, k ∈ l → noDup l = true → bkN (newN d i l) (lkr (newN d i l ++ R) k) = some k
  | [], i, k, h, _ => by simp at h
  | j :: l, i, k, h, hn => by
    simp only [noDup, Bool.and_eq_true, Bool.not_eq_true'] at hn
    simp only [newN, List.cons_append, lkr]
    cases hj : j == k
    · simp only [cond_false]
      have hk : k ∈ l := by
        simp only [List.mem_cons] at h
        rcases h with rfl | h
        · simp at hj
        · exact h
      have ih := newN_lk (d := d) (R := R) (i := i + 1) hk hn.2
      have hm := newN_mem (bkN_mem ih)
      have : (10000 + 100 * d + i == lkr (newN d (i + 1) l ++ R) k) = false := by simp; omega
      simp only [bkN, this, cond_false]; exact ih
    · simp only [cond_true, bkN, beq_self_eq_true, cond_true]
      simp only [beq_iff_eq] at hj; rw [hj]
theorem newN_other {d : Nat} {R : List (Nat × Nat)} : ∀ {l : List Nat} {i k : Nat}, k ∉ l → lkr (newN d i l ++ R) k = lkr R k
  | [], i, k, _ => rfl
  | j :: l, i, k, h => by
    simp only [List.mem_cons, not_or] at h
    have : (j == k) = false := by simpa using fun e : j = k => h.1 e.symm
    simp only [newN, List.cons_append, lkr, this, cond_false]
    exact newN_other h.2
theorem noDup_append : ∀ {a b : List Nat}, noDup (a ++ b) = true → noDup b = true ∧ ∀ k ∈ a, k ∉ b
  | [], b, h => ⟨h, by simp⟩
  | k :: a, b, h => by
    simp only [List.cons_append, noDup, Bool.and_eq_true, Bool.not_eq_true'] at h
    obtain ⟨h1, h2⟩ := noDup_append h.2
    refine ⟨h1, fun j hj => ?_⟩
    simp only [List.mem_cons] at hj
    rcases hj with rfl | hj
    · intro hb
      have : (a ++ b).contains j = true := by simp [hb]
      rw [h.1] at this; cases this
    · exact h2 j hj
theorem noDup_mapInj {ρ : Nat → Nat} : ∀ {l : List Nat}, noDup (l.map ρ) = true → ∀ i ∈ l, ∀ j ∈ l, ρ i = ρ j → i = j
  | [], _, i, hi, _, _, _ => by simp at hi
  | k :: l, h, i, hi, j, hj, e => by
    simp only [List.map_cons, noDup, Bool.and_eq_true, Bool.not_eq_true'] at h
    have hk : ∀ x ∈ l, ρ k ≠ ρ x := by
      intro x hx he
      have : (l.map ρ).contains (ρ k) = true := by
        rw [List.contains_eq_mem, decide_eq_true_eq, he]; exact List.mem_map_of_mem hx
      rw [h.1] at this; cases this
    simp only [List.mem_cons] at hi hj
    rcases hi with rfl | hi <;> rcases hj with rfl | hj
    · rfl
    · exact absurd e (hk j hj)
    · exact absurd e.symm (hk i hi)
    · exact noDup_mapInj h.2 i hi j hj e
theorem drops_get {R : List (Nat × Nat)} {H : Hp} {c : Nat} {p : Bool × Ent} : ∀ {l : List Nat}, geth (drops R l ++ H) c = some p → (∀ k ∈ l, lkr R k ≠ c) ∧ geth H c = some p
  | [], h => ⟨by simp, h⟩
  | k :: l, h => by
    simp only [drops, List.cons_append, geth] at h
    cases hk : lkr R k == c
    · rw [hk, cond_false] at h
      obtain ⟨h1, h2⟩ := drops_get h
      refine ⟨fun j hj => ?_, h2⟩
      simp only [List.mem_cons] at hj
      rcases hj with rfl | hj
      · simpa using hk
      · exact h1 j hj
    · rw [hk, cond_true] at h; cases h
theorem EntOk.blk {own ok : Nat → Prop} {ι : Nat → Option (Nat × Nat)} {w : World} {nm b c : Nat} {x : Ent} (h : EntOk own ok ι w nm x) (hi : ι nm = some (b, c)) : own b := by
  cases x with
  | box T l => obtain ⟨b', cap, cur, h1, h2, _⟩ := h; rw [hi] at h1; simp at h1; exact h1.1 ▸ h2.1
  | arr T n l =>
    rcases h with ⟨h1, _⟩ | ⟨b', cap, cur, h1, h2, _⟩
    · rw [hi] at h1; cases h1
    · rw [hi] at h1; simp at h1; exact h1.1 ▸ h2
theorem EntOk.ownTo {own own' ok : Nat → Prop} {ι : Nat → Option (Nat × Nat)} {w : World} {nm : Nat} {x : Ent} (ho : ∀ b, b < w.heap.size → own b → own' b) (h : EntOk own ok ι w nm x) : EntOk own' ok ι w nm x := by
  cases x with
  | box T l => obtain ⟨b', cap, cur, h1, h2, h3, h4⟩ := h; exact ⟨b', cap, cur, h1, ⟨ho _ (Array.getElem?_eq_some_iff.1 h3).1 h2.1, h2.2⟩, h3, h4⟩
  | arr T n l =>
    rcases h with h | ⟨b', cap, cur, h1, h2, h3, h4⟩
    · exact .inl h
    · exact .inr ⟨b', cap, cur, h1, ho _ (Array.getElem?_eq_some_iff.1 h3).1 h2, h3, h4⟩
theorem RepAs_of {ok : Nat → Prop} {ι : Nat → Option (Nat × Nat)} {w : World} : ∀ {l : List AV} {vs : List Value}, vs.length = l.length → (∀ (k : Nat) (A : AV) (v : Value), l[k]? = some A → vs[k]? = some v → RepA ok ι w A v) → RepAs ok ι w false l vs
  | [], vs, hl, _ => by simp only [RepAs]; simpa using hl
  | a :: l, [], hl, _ => by simp at hl
  | a :: l, v :: vs, hl, h => by
    simp only [RepAs]
    exact ⟨v, vs, rfl, h 0 a v rfl rfl, by simp, RepAs_of (by simpa using hl) fun k A u hA hu => h (k + 1) A u (by simpa using hA) (by simpa using hu)⟩
section
variable {C : Ctx} {σ : St} {o : Oper} {g : Bool}
theorem snd_callZ {f : Nat} {args : Array Operand} {ts : Array TypeId} {d : Nat} {Z : ZC} {R : List (Nat × Nat)} (ho : o.op = .call ⟨.value (.func f), args, ts⟩) (hf : isFn C.P f = true) (hc : chkZ d Z R σ = true)
    (hs : sideZ C.P f d Z R σ (args.toList.map (opnd σ.e))) : ∀ ι a w, SimI C σ ι a w → ∀ (K : Act → World → Prop) (Q : Exit → Act → World → Prop),
      (∀ y, Z.q y → ∀ v w' ι', SimI C ⟨σ.e, hpZ d Z R y σ.h⟩ ι' a w' → RepA (okOf C.F (hpZ d Z R y σ.h) ι' w') ι' w' (renA (lkr (RRof d Z R)) (Z.r y)) v → K (a.put o.dst v) w') → o.wp C.P a w K Q := by
  intro ι a w S K Q hK
  obtain ⟨s1, s2, s3, s4, s5⟩ := hs
  simp only [chkZ, Bool.and_eq_true] at hc
  obtain ⟨⟨⟨⟨⟨⟨⟨c1, c0⟩, c2⟩, c3⟩, c4⟩, c5⟩, c6⟩, c7⟩ := hc
  let ιc : Nat → Option (Nat × Nat) := fun k => ι (lkr R k)
  let G : Nat → Prop := fun b => C.F b ∨ ∃ c x cc, geth σ.h c = some (true, x) ∧ (∀ k ∈ namesH Z.h0, lkr R k ≠ c) ∧ ι c = some (b, cc)
  have hX : ∀ b, X0 Z.h0 ιc b → ∃ c x cc, geth σ.h c = some (true, x) ∧ (∃ k ∈ namesH Z.h0, lkr R k = c) ∧ ι c = some (b, cc) := by
    rintro b ⟨k, x, c, h1, h2⟩
    have := matchH_get s3 h1
    exact ⟨_, _, c, this.1, ⟨k, this.2, rfl⟩, h2⟩
  have hXown : ∀ b, X0 Z.h0 ιc b → C.own b := fun b h => by
    obtain ⟨c, x, cc, h1, _, h3⟩ := hX b h
    exact own_of_live S h1 h3
  have hXold : ∀ c x b cc, geth σ.h c = some (true, x) → (∀ k ∈ namesH Z.h0, lkr R k ≠ c) → ι c = some (b, cc) → ¬ X0 Z.h0 ιc b := by
    intro c x b cc h1 h2 h3 h4
    obtain ⟨c', x', cc', k1, ⟨k, hk, rfl⟩, k3⟩ := hX b h4
    exact S.inj c (lkr R k) x x' b cc cc' h1 k1 (fun e => h2 k hk e.symm) h3 k3
  have hok : ∀ b, okOf C.F σ.h ι w b → okOf (FZ w (X0 Z.h0 ιc) G) Z.h0 ιc w b := fun b hb =>
    ⟨hb.1, fun k x c hx hi => hb.2.1 (lkr R k) _ c (matchH_get s3 hx).1 hi, fun hF => hF.1.elim hb.2.2 fun ⟨c, x, cc, h1, _, h3⟩ => hb.2.1 c x cc h1 h3⟩
  unfold Oper.wp
  rw [run_enter ho hf a w]
  have hargs : RepAs (okOf (FZ w (X0 Z.h0 ιc) G) Z.h0 ιc w) ιc w false Z.as (args.map a.eval).toList := by
    have h1 : RepAs (okOf C.F σ.h ι w) ι w false ((args.toList.map (opnd σ.e)).map sp) (args.map a.eval).toList := RepAs_of (by simp) (by
      have := pkl_rep S rfl args.toList s1
      simpa using this)
    rw [s2, renAs_rep] at h1
    exact RepAs.tr hok (fun _ _ => rfl) false _ _ (fun _ _ => rfl) h1
  refine (s5 w (args.map a.eval) ιc G (fun k x hx => ?_) (fun k k' x x' b c c' hx hx' hne hi hi' => ?_) hargs).mono ?_
  · have E := S.ent _ _ (matchH_get s3 hx).1
    rw [renE_ok] at E
    refine EntOk.ownTo (own := C.own) (fun b hb _ => hb) ?_
    exact E.tr hok (fun _ _ => rfl) (fun _ _ _ => rfl) rfl (fun _ _ => rfl)
  · have m1 := matchH_get s3 hx; have m2 := matchH_get s3 hx'
    exact S.inj (lkr R k) (lkr R k') _ _ b c c' m1.1 m2.1 (fun e => hne (noDup_mapInj c1 k m1.2 k' m2.2 e)) hi hi'
  rintro e w' ⟨v, y, ι', rfl, hq, ⟨w1, w2, w3, w4⟩, hsame, hpin, hent, hinj, hr⟩
  obtain ⟨y1, y2⟩ := s4 y
  obtain ⟨d1, d2⟩ := noDup_append c4
  simp only [inL, outL, freeL, List.all_eq_true, Bool.not_eq_true', List.contains_eq_mem, decide_eq_true_eq, decide_eq_false_iff_not, Option.isNone_iff_eq_none] at c5 c6 c7
  let NN := newN d 0 Z.news
  let ren : Nat → Nat := lkr (RRof d Z R)
  let ι2 : Nat → Option (Nat × Nat) := fun c => match bkN NN c with
    | some k => ι' k
    | none => ι c
  have hnew : ∀ k ∈ Z.news, bkN NN (ren k) = some k := fun k hk => newN_lk hk d1
  have hpinR : ∀ k ∈ Z.pins, ren k = lkr R k := fun k hk => newN_other (d2 k hk)
  have hpinN : ∀ k ∈ Z.pins, bkN NN (ren k) = none := fun k hk => bkN_none fun hm => by
    refine c6 _ hm ?_
    rw [hpinR k hk]; exact List.mem_map_of_mem (c5 k hk)
  have hι : ∀ k ∈ Z.pins ++ Z.news, ι2 (ren k) = ι' k := by
    intro k hk
    rcases List.mem_append.1 hk with hk | hk
    · simp only [ι2, hpinN k hk]
      rw [hpinR k hk]; exact (hpin k hk).symm
    · simp only [ι2, hnew k hk]
  have hinjL : ∀ i ∈ Z.pins ++ Z.news, ∀ j ∈ Z.pins ++ Z.news, ren i = ren j → i = j := by
    intro i hi j hj e
    rcases List.mem_append.1 hi with hi | hi <;> rcases List.mem_append.1 hj with hj | hj
    · rw [hpinR i hi, hpinR j hj] at e
      exact noDup_mapInj c1 i (c5 i hi) j (c5 j hj) e
    · have := hnew j hj; rw [← e, hpinN i hi] at this; cases this
    · have := hnew i hi; rw [e, hpinN j hj] at this; cases this
    · have h1 := hnew i hi; have h2 := hnew j hj
      rw [e, h2] at h1; simpa using h1.symm
  have hfr : ∀ c k, bkN NN c = some k → fresh c σ = true := fun c k h => by
    have := newN_mem (bkN_mem h)
    exact freshR_spec c2 (by omega) (by omega)
  have hι2 : ∀ c, bkN NN c = none → ι2 c = ι c := fun c h => by simp only [ι2, h]
  have hlive : ∀ c x, geth (hpZ d Z R y σ.h) c = some (true, x) → (∃ k x0, c = ren k ∧ k ∈ Z.pins ++ Z.news ∧ geth (Z.h1 y) k = some (true, x0) ∧ x = renE ren x0) ∨ ((∀ k ∈ namesH Z.h0, lkr R k ≠ c) ∧ geth σ.h c = some (true, x) ∧ ι2 c = ι c) := by
    intro c x hx
    rcases renH_get y1 hinjL hx with ⟨k, x0, e1, e2, e3, e4⟩ | ⟨_, h2⟩
    · simp only [Prod.mk.injEq, true_and] at e4
      exact .inl ⟨k, x0, e1, e2, e3, e4⟩
    · obtain ⟨h3, h4⟩ := drops_get h2
      refine .inr ⟨h3, h4, hι2 c ?_⟩
      cases hb : bkN NN c with
      | none => rfl
      | some k =>
        have := c7 c (bkN_mem hb)
        rw [h4] at this; cases this
  have hblk : ∀ k x0 b cc, geth (Z.h1 y) k = some (true, x0) → ι' k = some (b, cc) → w.heap.size ≤ b ∨ X0 Z.h0 ιc b := fun k x0 b cc h1 h2 => (hent k x0 h1).blk h2
  have hokA : ∀ b, okOf C.F σ.h ι w b → okOf C.F (hpZ d Z R y σ.h) ι2 w' b := by
    intro b hb
    refine ⟨Nat.lt_of_lt_of_le hb.1 w4, fun c x cc hx hi => ?_, hb.2.2⟩
    rcases hlive c x hx with ⟨k, x0, rfl, hk, hg, _⟩ | ⟨_, h2, h3⟩
    · rw [hι k hk] at hi
      rcases hblk k x0 b cc hg hi with h | h
      · have := hb.1; omega
      · obtain ⟨c', x', cc', k1, _, k3⟩ := hX b h
        exact hb.2.1 c' x' cc' k1 k3
    · rw [h3] at hi; exact hb.2.1 c x cc h2 hi
  have hnX : ∀ b, okOf C.F σ.h ι w b → ¬ X0 Z.h0 ιc b := fun b hb h => by
    obtain ⟨c', x', cc', k1, _, k3⟩ := hX b h
    exact hb.2.1 c' x' cc' k1 k3
  have hw : ∀ b, okOf C.F σ.h ι w b → w'.heap[b]? = w.heap[b]? := fun b hb => hsame b hb.1 (hnX b hb)
  have hokB : ∀ b, okOf (FZ w (X0 Z.h0 ιc) G) (Z.h1 y) ι' w' b → okOf C.F (hpZ d Z R y σ.h) ι2 w' b := by
    intro b hb
    refine ⟨hb.1, fun c x cc hx hi => ?_, fun hF => ?_⟩
    · rcases hlive c x hx with ⟨k, x0, rfl, hk, hg, _⟩ | ⟨h1, h2, h3⟩
      · rw [hι k hk] at hi; exact hb.2.1 k x0 cc hg hi
      · rw [h3] at hi
        exact hb.2.2 ⟨.inr ⟨c, x, cc, h2, h1, hi⟩, S.live_lt h2 hi, hXold c x b cc h2 h1 hi⟩
    · exact hb.2.2 ⟨.inl hF, Nat.lt_of_lt_of_le hF.2.1 S.size, fun h => C.own_F (hXown b h) hF⟩
  have S' : SimI C ⟨σ.e, hpZ d Z R y σ.h⟩ ι2 a w' := by
    refine ⟨fun s => RepA.tr hokA hw _ _ (fun nm hn => hι2 nm ?_) (S.env s), fun c x hx => ?_, fun c c' x x' b cc cc' hx hx' hne hi hi' => ?_, w1.trans S.os, w2.trans S.tape, w3.trans S.output, Nat.le_trans S.size w4, fun k hk hX' => ?_, S.def0, S.tms⟩
    · cases hb : bkN NN nm with
      | none => rfl
      | some k =>
        have hf2 := hfr nm k hb
        simp only [fresh, Bool.and_eq_true] at hf2
        rw [get_refs hf2.1 s] at hn; cases hn
    · rcases hlive c x hx with ⟨k, x0, rfl, hk, hg, rfl⟩ | ⟨h1, h2, h3⟩
      · have E := hent k x0 hg
        rw [renE_ok]
        have E2 : EntOk C.own (okOf (FZ w (X0 Z.h0 ιc) G) (Z.h1 y) ι' w') ι' w' k x0 := E.ownTo fun b _ h => h.elim (fun h => .inl (Nat.le_trans S.size h)) (hXown b)
        exact E2.tr hokB (fun _ _ => rfl) (fun _ _ _ => rfl) (hι k hk) (fun j hj => hι j (clE_refs (clH_get y1 hg).2.1 j hj))
      · refine (S.ent c x h2).tr hokA hw (fun b cc hi => hsame b (S.live_lt h2 hi) (hXold c x b cc h2 h1 hi)) h3 (fun j hj => hι2 j ?_)
        cases hb : bkN NN j with
        | none => rfl
        | some k =>
          have hf2 := hfr j k hb
          simp only [fresh, Bool.and_eq_true] at hf2
          rw [geth_refs hf2.2 h2] at hj; cases hj
    · rcases hlive c x hx with ⟨k, x0, rfl, hk, hg, _⟩ | ⟨h1, h2, h3⟩ <;> rcases hlive c' x' hx' with ⟨k', x0', rfl, hk', hg', _⟩ | ⟨h1', h2', h3'⟩
      · rw [hι k hk] at hi; rw [hι k' hk'] at hi'
        exact hinj k k' x0 x0' b cc cc' hg hg' (fun e => hne (by rw [e])) hi hi'
      · rw [hι k hk] at hi; rw [h3'] at hi'
        rcases hblk k x0 b cc hg hi with h | h
        · have := S.live_lt h2' hi'; omega
        · exact hXold c' x' b cc' h2' h1' hi' h
      · rw [h3] at hi; rw [hι k' hk'] at hi'
        rcases hblk k' x0' b cc' hg' hi' with h | h
        · have := S.live_lt h2 hi; omega
        · exact hXold c x b cc h2 h1 hi h
      · rw [h3] at hi; rw [h3'] at hi'
        exact S.inj c c' x x' b cc cc' h2 h2' hne hi hi'
    · rw [hsame k (Nat.lt_of_lt_of_le hk S.size) (fun h => (hXown k h).elim (fun h => by omega) hX'), S.old k hk hX']
  refine hK y hq v w' ι2 S' ?_
  rw [renA_rep]
  exact RepA.tr hokB (fun _ _ => rfl) _ _ (fun nm hn => hι nm (clA_refs y2 nm hn)) hr
end
end Go.Eng

set_option linter.unusedSimpArgs false
set_option linter.unusedVariables false
namespace Go.Eng
open Go.RowKit

structure ZQ where
  Z : ZC
  R : List (Nat × Nat)
abbrev TH := FuncId → List AV → Hp → Option ZQ
def zOf (Θ : TH) (o : Oper) (σ : St) : Option (FuncId × List AV × Nat × ZQ) :=
  match o.guard with
  | some _ => none
  | none => match o.op with
    | .call ⟨.value (.func f), as, _⟩ => match o.dst with
      | some d => match Θ f ((as.toList.map (opnd σ.e)).map sp) σ.h with
        | some z => some (f, as.toList.map (opnd σ.e), d, z)
        | none => none
      | none => none
    | _ => none
def ixOf (P : Program) (o : Oper) (σ : St) : Option (Nat × AV × Prop) :=
  match o.guard, o.dst, o.op with
  | none, some d, .index T x y => match sp (opnd σ.e x), isI (sp (opnd σ.e y)), arOf P T with
    | .agg l, some (_, i), some (len, e) => match tyOf P e, l[i.toNat]? with
      | some (sz, ag), some a => bif sz == 1 && !ag && l.length == len then some (d, a, pk true (opnd σ.e x) ∧ pk true (opnd σ.e y) ∧ 0 ≤ i ∧ i < len) else none
      | _, _ => none
    | _, _, _ => none
  | _, _, _ => none
def runZ (P : Program) (Γ : FuncId → List D → RV) (Δ : FuncId → List AV → Hp → Option (List PX × RV)) (Θ : TH) (n : Nat) (L : List Oper) (fz : List Nat) (K : St → Prop) : List Oper → Rn → Prop
  | [], r => fin r.its (K r.σ)
  | o :: os, r => match zOf Θ o r.σ with
    | some (f, as, d, z) => (decide (d < n) && isFn P f && chkZ d z.Z z.R r.σ) = true ∧
        fin r.its (sideZ P f d z.Z z.R r.σ as ∧ ∀ y, z.Z.q y → runZ P Γ Δ Θ n L fz K os ⟨⟨(d, renA (lkr (RRof d z.Z z.R)) (z.Z.r y)) :: r.σ.e, hpZ d z.Z z.R y r.σ.h⟩, []⟩)
    | none => match ixOf P o r.σ with
      | some (d, a, s) => decide (d < n) = true ∧ fin r.its (s ∧ runZ P Γ Δ Θ n L fz K os ⟨⟨(d, a) :: r.σ.e, r.σ.h⟩, []⟩)
      | none => match stepX P Γ Δ n L fz o r with
        | some r' => runZ P Γ Δ Θ n L fz K os r'
        | none => False
theorem ixOf_sound {C : Ctx} {σ : St} {o : Oper} {d : Nat} {av : AV} {s : Prop} (h : ixOf C.P o σ = some (d, av, s)) : o.guard = none ∧ o.dst = some d ∧ (s → ∀ ι a w, SimI C σ ι a w → ∃ v, (execOp a.eval o).run C.P w = .ok (.value v) w ∧ RepA (okOf C.F σ.h ι w) ι w av v) := by
  unfold ixOf at h
  split at h
  · rename_i d' T x y hg hd ho
    split at h
    · rename_i l k i len e hx hy he
      split at h
      · rename_i sz ag a ht hl
        cases hz : (sz == 1 && !ag && l.length == len)
        · rw [hz] at h; cases h
        · rw [hz, cond_true] at h
          simp only [Option.some.injEq, Prod.mk.injEq] at h
          obtain ⟨rfl, rfl, rfl⟩ := h
          simp only [Bool.and_eq_true, beq_iff_eq, Bool.not_eq_true'] at hz
          obtain ⟨⟨rfl, rfl⟩, hlen⟩ := hz
          refine ⟨hg, hd, fun ⟨p1, p2, h0, h1⟩ ι a' w S => ?_⟩
          have ex := S.sopnd rfl x p1
          have ey := isI_rep (S.sopnd rfl y p2) hy
          rw [hx] at ex
          simp only [RepA] at ex
          obtain ⟨vs, ex, hr⟩ := ex
          have hu := arOf_some he
          have hsz := ty_size (w := w) ht
          have ht' := (ty_one (w := w) ht).1
          obtain ⟨v, hv, hrv, _⟩ := RepAs_get _ hr hl
          refine ⟨v, ?_, hrv⟩
          simp [execOp, ho, ex, ey, Instr.index, run_underlying hu, asIntOf, h0, h1, hsz, part, ht', hv]
      · cases h
    · cases h
  · cases h
theorem zOf_some {Θ : TH} {o : Oper} {σ : St} {f : FuncId} {as : List AV} {d : Nat} {z : ZQ} (h : zOf Θ o σ = some (f, as, d, z)) : o.guard = none ∧ o.dst = some d ∧ ∃ args ts, o.op = .call ⟨.value (.func f), args, ts⟩ ∧ as = args.toList.map (opnd σ.e) := by
  unfold zOf at h
  split at h
  · cases h
  · rename_i hg
    split at h
    · rename_i f' args ts ho
      split at h
      · rename_i d' hd
        split at h
        · simp only [Option.some.injEq, Prod.mk.injEq] at h
          obtain ⟨rfl, rfl, rfl, rfl⟩ := h
          exact ⟨hg, hd, args, ts, ho, rfl⟩
        · cases h
      · cases h
    · cases h
section
variable {C : Ctx} {σ : St}
theorem runZ_sound {Γ : FuncId → List D → RV} {Δ : FuncId → List AV → Hp → Option (List PX × RV)} {Θ : TH} {L : List Oper} {fz : List Nat} {K : St → Prop} {Q : Exit → Act → World → Prop} (hQ : ∀ σ a w, K σ → Sim C σ a w → Q .normal a w) :
    ∀ (os : List Oper) (k : Nat) (r : Rn), L.drop k = os → runZ C.P Γ Δ Θ C.n L fz K os r → fin r.its (∀ ι a w, SimI C r.σ ι a w → wpOps C.P L.toArray Q (List.range' k os.length) a w)
  | [], k, r, hk, h => by
    simp only [runZ] at h
    refine fin_mono (fun hK ι a w S => ?_) h
    simp only [List.length_nil, List.range'_zero, wpOps]
    exact hQ _ a w hK ⟨ι, S⟩
  | o :: os, k, r, hk, h => by
    have hk' : L.drop (k + 1) = os := by rw [← List.drop_drop, hk]; rfl
    have ho : L[k]? = some o := by
      have := congrArg (·[0]?) hk
      simpa using this
    simp only [runZ] at h
    split at h
    · rename_i f as d z hz
      obtain ⟨h1, h2⟩ := h
      simp only [Bool.and_eq_true, decide_eq_true_eq] at h1
      obtain ⟨⟨h3, h4⟩, h5⟩ := h1
      obtain ⟨g1, g2, args, ts, g3, rfl⟩ := zOf_some hz
      refine fin_mono (fun hS ι a w S => ?_) h2
      simp only [List.length_cons, List.range'_succ, wpOps, List.getElem?_toArray, ho]
      have hw : Region.wanted o (yielded L.toArray a.tmps) = true := by simp [Region.wanted, g1]
      rw [if_pos hw]
      refine .inl (snd_callZ g3 h4 h5 hS.1 ι a w S _ _ fun y hq v w' ι' S' hr => ?_)
      have ih := runZ_sound hQ os (k + 1) _ hk' (hS.2 y hq)
      simp only [fin] at ih
      rw [g2]
      exact ih ι' _ w' (S'.put h3 hr)
    · split at h
      · rename_i d av s hix
        obtain ⟨h3, h2⟩ := h
        simp only [decide_eq_true_eq] at h3
        obtain ⟨g1, g2, hsnd⟩ := ixOf_sound hix
        refine fin_mono (fun hS ι a w S => ?_) h2
        simp only [List.length_cons, List.range'_succ, wpOps, List.getElem?_toArray, ho]
        have hw : Region.wanted o (yielded L.toArray a.tmps) = true := by simp [Region.wanted, g1]
        rw [if_pos hw]
        obtain ⟨v, hv, hr⟩ := hsnd hS.1 ι a w S
        refine .inl ?_
        unfold Oper.wp
        rw [hv]
        have ih := runZ_sound hQ os (k + 1) _ hk' hS.2
        simp only [fin] at ih
        have := ih ι _ w (S.put h3 hr)
        show wpOps C.P L.toArray Q (List.range' (k + 1) os.length) (a.put o.dst v) w
        rw [g2]; exact this
      split at h
      · rename_i r' hs
        obtain ⟨its, hi, hstep⟩ := stepX_sound hs
        have ih := runZ_sound hQ os (k + 1) r' hk' h
        rw [hi] at ih
        refine fin_mono (fun hS ι a w S => ?_) (fin_append ih)
        simp only [List.length_cons, List.range'_succ, wpOps, List.getElem?_toArray, ho]
        have h1 := hstep _ hS ι a w S (wpOps C.P L.toArray Q (List.range' (k + 1) os.length)) Q (fun hh ι' a' w' S' => hh ι' a' w' S')
        split
        · rename_i hw; rw [if_pos hw] at h1; exact .inl h1
        · rename_i hw; rw [if_neg hw] at h1; exact h1
      · exact h.elim
theorem WA_regionZ {K R : St → Prop} {E : Nat → St → Prop} {id : Nat} {ops : Array Oper} (Γ : FuncId → List D → RV) (Δ : FuncId → List AV → Hp → Option (List PX × RV)) (Θ : TH) (fz V : List Nat)
    (h : runZ C.P Γ Δ Θ C.n ops.toList fz (fun σ' => K (gather V σ')) ops.toList ⟨σ, []⟩) : WA C (.region id ops false) K R E σ := by
  unfold WA
  intro a w S
  obtain ⟨ι, S⟩ := S
  have h1 := runZ_sound (C := C) (Q := QQ C K R E) (K := fun σ' => K (gather V σ')) (fun σ a w hk hs => ⟨_, hk, hs.gather V⟩) ops.toList 0 ⟨σ, []⟩ (by simp) h
  simp only [fin] at h1
  have h2 := h1 ι a w S
  refine wp_region ?_
  simpa [List.range_eq_range'] using h2
theorem V_regionZ {K R : St → Prop} {E : Nat → St → Prop} {id : Nat} {ops : Array Oper} (Γ : FuncId → List D → RV) (Δ : FuncId → List AV → Hp → Option (List PX × RV)) (Θ : TH) (fz V : List Nat)
    (h : Ev (runZ C.P Γ Δ Θ C.n ops.toList fz (fun σ' => K (gather V σ')) ops.toList ⟨σ, []⟩)) : WA C (.region id ops false) K R E σ := WA_regionZ Γ Δ Θ fz V h.out
end
end Go.Eng

set_option linter.unusedSimpArgs false
set_option linter.unusedVariables false
namespace Go.Eng
open Go.RowKit

section
variable {C : Ctx} {σ : St} {K R : St → Prop} {E : Nat → St → Prop}
theorem SimI.trim {ι : Nat → Option (Nat × Nat)} {a : Act} {w : World} (S : SimI C σ ι a w) {nm T n : Nat} {l : List (List D)} (m : Nat) (h : geth σ.h nm = some (true, .arr T n l)) : SimI C ⟨σ.e, (nm, some (true, .arr T n (l.take m))) :: σ.h⟩ ι a w := by
  have hlive : ∀ k x, geth ((nm, some (true, .arr T n (l.take m))) :: σ.h) k = some (true, x) → ∃ y, geth σ.h k = some (true, y) ∧ ((k ≠ nm ∧ y = x) ∨ (k = nm ∧ x = .arr T n (l.take m))) := by
    intro k x hk
    simp only [geth] at hk
    cases hn : nm == k
    · rw [hn, cond_false] at hk
      exact ⟨x, hk, .inl ⟨fun e => by simp [e] at hn, rfl⟩⟩
    · rw [hn, cond_true] at hk
      simp only [beq_iff_eq] at hn; subst hn
      simp only [Option.some.injEq, Prod.mk.injEq, true_and] at hk
      exact ⟨_, h, .inr ⟨rfl, hk.symm⟩⟩
  have hok : ∀ b, okOf C.F σ.h ι w b → okOf C.F ((nm, some (true, .arr T n (l.take m))) :: σ.h) ι w b := fun b hb => ⟨hb.1, fun k x c hx => by
    obtain ⟨y, hy, _⟩ := hlive k x hx
    exact hb.2.1 k y c hy, hb.2.2⟩
  refine ⟨fun s => RepA.tr hok (fun _ _ => rfl) _ _ (fun _ _ => rfl) (S.env s), fun k x hx => ?_, fun k k' x x' b c c' hx hx' => ?_, S.os, S.tape, S.output, S.size, S.old, S.def0, S.tms⟩
  · obtain ⟨y, hy, hh⟩ := hlive k x hx
    rcases hh with ⟨_, rfl⟩ | ⟨rfl, rfl⟩
    · exact (S.ent k y hy).tr hok (fun _ _ => rfl) (fun _ _ _ => rfl) rfl (fun _ _ => rfl)
    · rcases S.ent k _ h with ⟨h1, h2⟩ | ⟨b, cap, cur, h1, h2, h3, h4, h5, h6, h7⟩
      · exact .inl ⟨h1, by simp [h2]⟩
      · refine .inr ⟨b, cap, cur, h1, h2, h3, h4, ?_, ⟨h6.1, ?_⟩, ?_⟩
        · simp; omega
        · simp; omega
        · have h8 := RepDss_take m (RepDss.tr hok (fun _ _ => rfl) _ _ _ h7)
          have e : (cur.toList.take (l.length * n)).take (m * n) = cur.toList.take ((l.take m).length * n) := by
            rw [List.take_take, List.length_take]
            congr 1
            rcases Nat.le_total m l.length with hm | hm
            · rw [Nat.min_eq_left hm, Nat.min_eq_left (Nat.mul_le_mul_right _ hm)]
            · rw [Nat.min_eq_right hm, Nat.min_eq_right (Nat.mul_le_mul_right _ hm)]
          rw [e] at h8; exact h8
  · obtain ⟨y, hy, _⟩ := hlive k x hx
    obtain ⟨y', hy', _⟩ := hlive k' x' hx'
    exact S.inj k k' y y' b c c' hy hy'
def trims : List (Nat × Nat) → Hp → Option Hp
  | [], h => some h
  | (nm, m) :: l, h => match geth h nm with
    | some (true, .arr T n x) => trims l ((nm, some (true, .arr T n (x.take m))) :: h)
    | _ => none
theorem trims_sim {a : Act} {w : World} {e : List (Nat × AV)} : ∀ {l : List (Nat × Nat)} {h h' : Hp}, trims l h = some h' → Sim C ⟨e, h⟩ a w → Sim C ⟨e, h'⟩ a w
  | [], h, h', ht, S => by simp only [trims, Option.some.injEq] at ht; subst ht; exact S
  | (nm, m) :: l, h, h', ht, S => by
    simp only [trims] at ht
    split at ht
    · rename_i T n x hg
      obtain ⟨ι, S⟩ := S
      exact trims_sim ht ⟨ι, SimI.trim (σ := ⟨e, h⟩) S m hg⟩
    · cases ht
def Trm (l : List (Nat × Nat)) (h : Hp) (k : Hp → Prop) : Prop := match trims l h with
  | some h' => k h'
  | none => False
theorem V_trim {c : Code} (l : List (Nat × Nat)) (h : Ev (Trm l σ.h fun h' => WA C c K R E ⟨σ.e, nrm 100 h'⟩)) : WA C c K R E σ := by
  have h1 := h.out
  unfold Trm at h1
  split at h1
  · rename_i h' ht
    refine WA_sub (fun a w S => ?_) h1
    obtain ⟨ι, S2⟩ := trims_sim (e := σ.e) ht S
    exact ⟨ι, S2.hcongr fun k => geth_nrm⟩
  · exact h1.elim
end
end Go.Eng

