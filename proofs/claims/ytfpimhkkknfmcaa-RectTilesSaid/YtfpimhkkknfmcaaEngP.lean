import Derived.Test.YtfpimhkkknfmcaaEngO
namespace Go.Eng
open Go.RowKit

/-! ### A state seen as a weaker one -/

def lk (ρ : List (Nat × Option Nat)) (k : Nat) : Option Nat := match ρ with
  | [] => some k
  | (j, x) :: l => bif j == k then x else lk l k

mutual
/-- The slot's value a may be seen as b. -/
def leA (ρ : List (Nat × Option Nat)) (h : Hp) (img : List Nat) (a : AV) : AV → Prop
  | .un => True
  | .dat d => match a with
    | .dat d' => d' = d
    | .vw nm o m n => match geth h nm with
      | some (g', .arr _ n' l) => (img.contains nm = false) ∧ g' = true ∧ n' = n ∧ o + m ≤ l.length ∧ D.sl n ((l.drop o).take m) = d
      | _ => False
    | _ => False
  | .rp l => a = .rp l
  | .vw nm o m n => match lk ρ nm with
    | some k => a = .vw k o m n
    | none => a = .dat (.v (.slice none 0 0)) ∧ o = 0 ∧ m = 0
  | .pt nm o => match lk ρ nm with
    | some k => a = .pt k o
    | none => False
  | .ep nm k f n => match lk ρ nm with
    | some j => a = .ep j k f n
    | none => False
  | .agg l => match a with
    | .agg l0 => leAs ρ h img l0 l
    | .dat (.agg ds) => leAs ρ h img (ds.map AV.dat) l
    | _ => False
  | .tup l => match a with
    | .tup l0 => leAs ρ h img l0 l
    | _ => False
  | .gd _ _ => False
def leAs (ρ : List (Nat × Option Nat)) (h : Hp) (img : List Nat) (as : List AV) : List AV → Prop
  | [] => as = []
  | b :: l => match as with
    | a :: as' => leA ρ h img a b ∧ leAs ρ h img as' l
    | [] => False
end

def leE (ρ : List (Nat × Option Nat)) (h : Hp) (img : List Nat) (x : Option (Bool × Ent)) : Ent → Prop
  | .box T c => match x with
    | some (g, .box T' c') => g = true ∧ T' = T ∧ leAs ρ h img c' c
    | _ => False
  | .arr T n l => match x with
    | some (g, .arr T' n' l') => g = true ∧ T' = T ∧ n' = n ∧ l' = l
    | _ => False

def leEnv (ρ : List (Nat × Option Nat)) (h : Hp) (img : List Nat) (e : List (Nat × AV)) : List (Nat × AV) → Prop
  | [] => True
  | (k, b) :: l => leA ρ h img (get e k) b ∧ leEnv ρ h img e l

/-- The names of the weaker state, each with the name that it had. -/
def imgs (ρ : List (Nat × Option Nat)) : Hp → List Nat
  | [] => []
  | (k, some _) :: l => match lk ρ k with
    | some j => j :: imgs ρ l
    | none => imgs ρ l
  | (_, none) :: l => imgs ρ l

def leHp (ρ : List (Nat × Option Nat)) (h : Hp) (img : List Nat) : Hp → Prop
  | [] => True
  | (k, some (g, x)) :: l => g = true ∧ (match lk ρ k with
      | some j => leE ρ h img (geth h j) x
      | none => match x with
        | .arr _ _ l => l = []
        | _ => False) ∧ leHp ρ h img l
  | (_, none) :: l => leHp ρ h img l

def noDup : List Nat → Bool
  | [] => true
  | k :: l => !l.contains k && noDup l

def Sub (ρ : List (Nat × Option Nat)) (σ σ' : St) : Prop :=
  noDup (imgs ρ σ'.h) = true ∧ leHp ρ σ.h (imgs ρ σ'.h) σ'.h ∧ leEnv ρ σ.h (imgs ρ σ'.h) σ.e σ'.e

section
variable {C : Ctx} {σ σ' : St} {ρ : List (Nat × Option Nat)} {a : Act} {w : World} {ι : Nat → Option (Nat × Nat)}

theorem leHp_geth {h : Hp} {img : List Nat} : ∀ {h' : Hp} {k : Nat} {g : Bool} {x : Ent}, leHp ρ h img h' → geth h' k = some (g, x) → match lk ρ k with
      | some j => leE ρ h img (geth h j) x
      | none => match x with
        | .arr _ _ l => l = []
        | _ => False
  | [], k, g, x, _, hg => by simp [geth] at hg
  | (j, y) :: l, k, g, x, hl, hg => by
    simp only [geth] at hg
    cases hj : j == k
    · rw [hj, cond_false] at hg
      cases y with
      | none => exact leHp_geth (h' := l) hl hg
      | some p => exact leHp_geth (h' := l) hl.2.2 hg
    · rw [hj, cond_true] at hg
      subst hg
      simp only [beq_iff_eq] at hj; subst hj
      exact hl.2.1

theorem imgs_mem : ∀ {h' : Hp} {k j : Nat} {p : Bool × Ent}, geth h' k = some p → lk ρ k = some j → j ∈ imgs ρ h'
  | [], k, j, p, hg, _ => by simp [geth] at hg
  | (i, y) :: l, k, j, p, hg, hl => by
    simp only [geth] at hg
    cases hi : i == k
    · rw [hi, cond_false] at hg
      have := imgs_mem (h' := l) hg hl
      cases y with
      | none => exact this
      | some q =>
        simp only [imgs]
        split
        · exact List.mem_cons_of_mem _ this
        · exact this
    · rw [hi, cond_true] at hg
      subst hg
      simp only [beq_iff_eq] at hi; subst hi
      simp only [imgs, hl]
      exact List.mem_cons_self

theorem imgs_inj : ∀ {h' : Hp}, noDup (imgs ρ h') = true → ∀ {k k' j : Nat} {p p' : Bool × Ent}, geth h' k = some p → geth h' k' = some p' → lk ρ k = some j → lk ρ k' = some j → k = k'
  | [], _, k, k', j, p, p', hg, _, _, _ => by simp [geth] at hg
  | (i, y) :: l, hn, k, k', j, p, p', hg, hg', h1, h2 => by
    simp only [geth] at hg hg'
    have hnl : noDup (imgs ρ l) = true := by
      cases y with
      | none => exact hn
      | some q =>
        simp only [imgs] at hn
        split at hn
        · simp only [noDup, Bool.and_eq_true] at hn; exact hn.2
        · exact hn
    cases hi : i == k
    · rw [hi, cond_false] at hg
      cases hi' : i == k'
      · rw [hi', cond_false] at hg'
        exact imgs_inj hnl hg hg' h1 h2
      · rw [hi', cond_true] at hg'
        subst hg'
        simp only [beq_iff_eq] at hi'; subst hi'
        simp only [imgs, h2, noDup, Bool.and_eq_true, Bool.not_eq_true'] at hn
        have := imgs_mem hg h1
        have h3 := hn.1
        simp [List.contains_eq_mem, this] at h3
    · rw [hi, cond_true] at hg
      subst hg
      simp only [beq_iff_eq] at hi; subst hi
      cases hi' : i == k'
      · rw [hi', cond_false] at hg'
        simp only [imgs, h1, noDup, Bool.and_eq_true, Bool.not_eq_true'] at hn
        have := imgs_mem hg' h2
        have h3 := hn.1
        simp [List.contains_eq_mem, this] at h3
      · simpa using hi'

/-- Where the names lie now. -/
def mv (ρ : List (Nat × Option Nat)) (ι : Nat → Option (Nat × Nat)) (k : Nat) : Option (Nat × Nat) := match lk ρ k with
  | some j => ι j
  | none => none

theorem Sub.live (_S : SimI C σ ι a w) (hs : Sub ρ σ σ') {k : Nat} {x : Ent} {b c : Nat} (hx : geth σ'.h k = some (true, x)) (hi : mv ρ ι k = some (b, c)) : ∃ j y, lk ρ k = some j ∧ geth σ.h j = some (true, y) ∧ ι j = some (b, c) := by
  unfold mv at hi
  split at hi
  · rename_i j hj
    have := leHp_geth hs.2.1 hx
    rw [hj] at this
    simp only at this
    cases x with
    | box T cc =>
      simp only [leE] at this
      split at this
      · rename_i g T' c' hg
        obtain ⟨rfl, _⟩ := this
        exact ⟨j, _, hj, hg, hi⟩
      · exact this.elim
    | arr T n l =>
      simp only [leE] at this
      split at this
      · rename_i g T' n' l' hg
        obtain ⟨rfl, _⟩ := this
        exact ⟨j, _, hj, hg, hi⟩
      · exact this.elim
  · cases hi

theorem Sub.ok (S : SimI C σ ι a w) (hs : Sub ρ σ σ') : ∀ b, okOf σ.h ι w b → okOf σ'.h (mv ρ ι) w b := by
  intro b hb
  refine ⟨hb.1, fun k x c hx hi => ?_⟩
  obtain ⟨j, y, _, h1, h2⟩ := Sub.live S hs hx hi
  exact hb.2 j y c h1 h2

mutual
theorem leA_rep (S : SimI C σ ι a w) (hs : Sub ρ σ σ') : ∀ (b A : AV) (v : Value), leA ρ σ.h (imgs ρ σ'.h) A b → RepA (okOf σ.h ι w) ι w A v → RepA (okOf σ'.h (mv ρ ι) w) (mv ρ ι) w b v
  | .un, A, v, hl, hr => by simp only [RepA]
  | .dat d, A, v, hl, hr => by
    simp only [leA] at hl
    split at hl
    · subst hl
      simp only [RepA] at hr ⊢
      exact RepD.tr (Sub.ok S hs) (fun _ _ => rfl) _ _ hr
    · rename_i nm oo m n
      split at hl
      · rename_i g' T n' l hg
        obtain ⟨himg, rfl, rfl, hle, rfl⟩ := hl
        have hlen : ((l.drop oo).take m).length = m := by simp; omega
        simp only [RepA] at hr ⊢
        simp only [RepD]
        rcases hr with ⟨hi, rfl, rfl, rfl⟩ | ⟨b, c, hi, rfl, hoc⟩
        · exact ⟨by simp, .inl ⟨by simp, _, _, rfl⟩⟩
        · rcases S.ent nm _ hg with ⟨h1, _⟩ | ⟨b', cap, cur, h1, h2, h3, h4, h5, h6, h7⟩
          · rw [hi] at h1; cases h1
          · rw [hi] at h1; simp only [Option.some.injEq, Prod.mk.injEq] at h1
            obtain ⟨rfl, rfl⟩ := h1
            refine ⟨by omega, .inr ⟨b, oo * n', c - oo, _, by rw [hlen], by omega, ⟨(Array.getElem?_eq_some_iff.1 h3).1, fun k x c' hx hik => ?_⟩, RepDss.tr (Sub.ok S hs) (fun _ _ => rfl) _ _ _ (RepDss_take m (RepDss_drop oo h7)), ?_⟩⟩
            · obtain ⟨j, y, e1, e2, e3⟩ := Sub.live S hs hx hik
              by_cases hj : j = nm
              · subst hj
                have := imgs_mem hx e1
                simp [List.contains_eq_mem, this] at himg
              · exact S.inj nm j _ y b c c' hg e2 (fun e => hj e.symm) hi e3
            · have hc := cellsAt_take (k := m * n') (cellsAt_drop (k := oo * n') (cellsAt_take (k := l.length * n') (cellsAt_block (o := 0) h3)))
              simpa using hc
      · exact hl.elim
    · exact hl.elim
  | .rp l, A, v, hl, hr => by
    simp only [leA] at hl
    subst hl
    simp only [RepA] at hr ⊢
    obtain ⟨b, o, vs, e, hb, h1, h2⟩ := hr
    exact ⟨b, o, vs, e, Sub.ok S hs b hb, RepDs.tr (Sub.ok S hs) (fun _ _ => rfl) _ _ h1, h2⟩
  | .vw nm o m n, A, v, hl, hr => by
    simp only [leA] at hl
    split at hl
    · rename_i k hk
      subst hl
      simp only [RepA] at hr ⊢
      simp only [mv, hk]
      exact hr
    · rename_i hk
      obtain ⟨rfl, rfl, rfl⟩ := hl
      simp only [RepA, RepD] at hr ⊢
      exact .inl ⟨by simp [mv, hk], hr, by simp⟩
  | .pt nm o, A, v, hl, hr => by
    simp only [leA] at hl
    split at hl
    · rename_i k hk
      subst hl
      simp only [RepA] at hr ⊢
      simp only [mv, hk]
      exact hr
    · exact hl.elim
  | .ep nm k f n, A, v, hl, hr => by
    simp only [leA] at hl
    split at hl
    · rename_i k hk
      subst hl
      simp only [RepA] at hr ⊢
      simp only [mv, hk]
      exact hr
    · exact hl.elim
  | .agg l, A, v, hl, hr => by
    simp only [leA] at hl
    split at hl
    · simp only [RepA] at hr ⊢
      obtain ⟨vs, e, h1⟩ := hr
      exact ⟨vs, e, leAs_rep S hs true l _ vs hl h1⟩
    · simp only [RepA, RepD] at hr ⊢
      obtain ⟨vs, e, h1⟩ := hr
      exact ⟨vs, e, leAs_rep S hs true l _ vs hl (RepAs_dat.2 h1)⟩
    · exact hl.elim
  | .tup l, A, v, hl, hr => by
    simp only [leA] at hl
    split at hl
    · simp only [RepA] at hr ⊢
      obtain ⟨vs, e, h1⟩ := hr
      exact ⟨vs, e, leAs_rep S hs false l _ vs hl h1⟩
    · exact hl.elim
  | .gd _ _, A, v, hl, hr => by simp only [leA] at hl
theorem leAs_rep (S : SimI C σ ι a w) (hs : Sub ρ σ σ') (one : Bool) : ∀ (l As : List AV) (vs : List Value), leAs ρ σ.h (imgs ρ σ'.h) As l → RepAs (okOf σ.h ι w) ι w one As vs → RepAs (okOf σ'.h (mv ρ ι) w) (mv ρ ι) w one l vs
  | [], As, vs, hl, hr => by
    simp only [leAs] at hl
    subst hl
    simpa only [RepAs] using hr
  | b :: l, As, vs, hl, hr => by
    simp only [leAs] at hl
    split at hl
    · simp only [RepAs] at hr ⊢
      obtain ⟨v, vs', e, h1, h2, h3⟩ := hr
      exact ⟨v, vs', e, leA_rep S hs b _ v hl.1 h1, h2, leAs_rep S hs one l _ vs' hl.2 h3⟩
    · exact hl.elim
end

theorem leEnv_get {img : List Nat} {h : Hp} {e : List (Nat × AV)} : ∀ {e' : List (Nat × AV)} (s : Nat), leEnv ρ h img e e' → leA ρ h img (get e s) (get e' s)
  | [], s, _ => by simp only [get, leA]
  | (k, b) :: l, s, hl => by
    simp only [get]
    cases hk : k == s
    · exact leEnv_get (e' := l) s hl.2
    · simp only [beq_iff_eq] at hk; subst hk
      exact hl.1

theorem Sub.simI (S : SimI C σ ι a w) (hs : Sub ρ σ σ') : SimI C σ' (mv ρ ι) a w := by
  refine ⟨fun s => leA_rep S hs _ _ _ (leEnv_get s hs.2.2) (S.env s), fun k x hx => ?_, fun k k' x x' b c c' hx hx' hne hi hi' => ?_, S.os, S.tape, S.output, S.size, S.old, S.def0, S.tms⟩
  · have hle := leHp_geth hs.2.1 hx
    cases hk : lk ρ k with
    | none =>
      rw [hk] at hle
      simp only at hle
      cases x with
      | box T c => exact hle.elim
      | arr T n l => exact .inl ⟨by simp [mv, hk], hle⟩
    | some j =>
      rw [hk] at hle
      simp only at hle
      have hmv : mv ρ ι k = ι j := by simp [mv, hk]
      cases x with
      | box T c =>
        simp only [leE] at hle
        split at hle
        · rename_i g T' c' hg
          obtain ⟨rfl, rfl, hl⟩ := hle
          obtain ⟨b, cap, cur, h1, h2, h3, h4⟩ := S.ent j _ hg
          exact ⟨b, cap, cur, by rw [hmv, h1], h2, h3, leAs_rep S hs true c c' _ hl h4⟩
        · exact hle.elim
      | arr T n l =>
        simp only [leE] at hle
        split at hle
        · rename_i g T' n' l' hg
          obtain ⟨rfl, rfl, rfl, rfl⟩ := hle
          rcases S.ent j _ hg with ⟨h1, h2⟩ | ⟨b, cap, cur, h1, h2, h3, h4, h5, h6, h7⟩
          · exact .inl ⟨by rw [hmv, h1], h2⟩
          · exact .inr ⟨b, cap, cur, by rw [hmv, h1], h2, h3, h4, h5, h6, RepDss.tr (Sub.ok S hs) (fun _ _ => rfl) _ _ _ h7⟩
        · exact hle.elim
  · obtain ⟨j, y, e1, e2, e3⟩ := Sub.live S hs hx hi
    obtain ⟨j', y', e1', e2', e3'⟩ := Sub.live S hs hx' hi'
    by_cases hj : j = j'
    · subst hj
      exact hne (imgs_inj hs.1 hx hx' e1 e1')
    · exact S.inj j j' y y' b c c' e2 e2' hj e3 e3'
end

theorem Sub.sim {C : Ctx} {σ σ' : St} {ρ : List (Nat × Option Nat)} (hs : Sub ρ σ σ') : ∀ a w, Sim C σ a w → Sim C σ' a w :=
  fun _ _ ⟨_, S⟩ => ⟨_, Sub.simI S hs⟩

/-- The slots of W, and the names of W, are forgotten. -/
def clr (W : List Nat) : List (Nat × AV) → List (Nat × AV)
  | [] => []
  | (k, a) :: l => bif W.contains k then clr W l else (k, a) :: clr W l
def clrh (W : List Nat) : Hp → Hp
  | [] => []
  | (k, a) :: l => bif W.contains k then clrh W l else (k, a) :: clrh W l

/-- A round's end. -/
def Nxt {α : Type} (f : α → List (Nat × AV)) (fh : α → Hp) (e0 : List (Nat × AV)) (h0 : Hp) (ρ : List (Nat × Option Nat)) (I : α → Prop) (μ : α → Nat) (m : Nat) (σ' : St) : Prop :=
  ∃ x', I x' ∧ μ x' < m ∧ Sub ρ σ' ⟨f x' ++ e0, fh x' ++ h0⟩

theorem Nxt.mk {α : Type} {f : α → List (Nat × AV)} {fh : α → Hp} {e0 : List (Nat × AV)} {h0 : Hp} {ρ : List (Nat × Option Nat)} {I : α → Prop} {μ : α → Nat} {m : Nat} {σ' : St} (x' : α) (h1 : I x') (h2 : μ x' < m) (h3 : Sub ρ σ' ⟨f x' ++ e0, fh x' ++ h0⟩) : Nxt f fh e0 h0 ρ I μ m σ' := ⟨x', h1, h2, h3⟩

/-- A loop: the slots W and the names WH change; at a round's head they hold f x and fh x. -/
theorem WA_loopS {C : Ctx} {K R : St → Prop} {E : Nat → St → Prop} {σ : St} {c : Code} {α : Type} (W WH : List Nat) (f : α → List (Nat × AV)) (fh : α → Hp) (I : α → Prop) (μ : α → Nat) (x0 : α) (ρ0 ρ : List (Nat × Option Nat))
    (h0 : I x0) (hs0 : Sub ρ0 σ ⟨f x0 ++ clr W σ.e, fh x0 ++ clrh WH σ.h⟩)
    (hr : ∀ x, I x → WA C c (Nxt f fh (clr W σ.e) (clrh WH σ.h) ρ I μ (μ x)) R E ⟨f x ++ clr W σ.e, fh x ++ clrh WH σ.h⟩) : WA C (.loop c) K R E σ :=
  WA_loop (fun x => ⟨f x ++ clr W σ.e, fh x ++ clrh WH σ.h⟩) I μ ⟨x0, h0, hs0.sim⟩
    (fun x hx => (hr x hx).mono (fun _ ⟨x', h1, h2, h3⟩ => ⟨x', h1, h2, h3.sim⟩) (fun _ h => h) (fun _ _ h => h))

theorem WA_weak {C : Ctx} {K R : St → Prop} {E : Nat → St → Prop} {σ : St} {c : Code} (σ' : St) (ρ : List (Nat × Option Nat)) (hs : Sub ρ σ σ') (h : WA C c K R E σ') : WA C c K R E σ := WA_sub hs.sim h
end Go.Eng
