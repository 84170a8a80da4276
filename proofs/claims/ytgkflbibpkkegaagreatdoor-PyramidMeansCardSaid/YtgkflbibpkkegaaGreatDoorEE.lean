import Derived.Test.YtgkflbibpkkegaaGreatDoorED
set_option linter.unusedSimpArgs false
set_option linter.unusedVariables false
namespace Go.Eng
open Go.RowKit

section
variable {C : Ctx} {σ : St} {o : Oper} {g : Bool} {ι : Nat → Option (Nat × Nat)} {a : Act} {w : World}

theorem hpI_cons (i : Nat) (p : PX) (ps : List PX) : hpI i (p :: ps) = hpI i [p] ++ hpI (i + 1) ps := by cases p <;> simp [hpI]
theorem hpO_cons (i : Nat) (p : PX) (ps : List PX) : hpO i (p :: ps) = hpO i [p] ++ hpO (i + 1) ps := by cases p <;> simp [hpO]
theorem geth_append {k : Nat} : ∀ {h h' : Hp} {x : Bool × Ent}, geth h k = some x → geth (h ++ h') k = some x
  | [], h', x, hx => by simp [geth] at hx
  | (j, y) :: l, h', x, hx => by
    simp only [List.cons_append, geth] at hx ⊢
    cases hs : j == k
    · rw [hs] at hx; exact geth_append hx
    · rw [hs] at hx; exact hx
theorem hpI_split {i k : Nat} {p : PX} {ps : List PX} {x : Ent} (h : geth (hpI i (p :: ps)) k = some (true, x)) : (k = 30000 + i ∧ geth (hpI i [p]) k = some (true, x)) ∨ geth (hpI (i + 1) ps) k = some (true, x) := by
  cases p <;> simp only [hpI, geth] at h ⊢
  · exact .inr h
  · cases hs : 30000 + i == k
    · rw [hs] at h; exact .inr h
    · have : 30000 + i = k := by simpa using hs
      rw [hs] at h; exact .inl ⟨this.symm, h⟩
  · cases hs : 30000 + i == k
    · rw [hs] at h; exact .inr h
    · have : 30000 + i = k := by simpa using hs
      rw [hs] at h; exact .inl ⟨this.symm, h⟩
theorem hpO_split {i k : Nat} {p : PX} {ps : List PX} {x : Ent} (h : geth (hpO i (p :: ps)) k = some (true, x)) : (k = 30000 + i ∧ geth (hpO i [p]) k = some (true, x)) ∨ geth (hpO (i + 1) ps) k = some (true, x) := by
  cases p <;> simp only [hpO, geth] at h ⊢
  · exact .inr h
  · cases hs : 30000 + i == k
    · rw [hs] at h; exact .inr h
    · have : 30000 + i = k := by simpa using hs
      rw [hs] at h; exact .inl ⟨this.symm, h⟩
  · cases hs : 30000 + i == k
    · rw [hs] at h; exact .inr h
    · have : 30000 + i = k := by simpa using hs
      rw [hs] at h; exact .inl ⟨this.symm, h⟩
theorem hpI_later {i k : Nat} {p : PX} {ps : List PX} {x : Bool × Ent} (h : geth (hpI (i + 1) ps) k = some x) : geth (hpI i (p :: ps)) k = some x := by
  have := hpI_ge h
  cases p <;> simp only [hpI, geth]
  · exact h
  · rw [show (30000 + i == k) = false by simp; omega]; exact h
  · rw [show (30000 + i == k) = false by simp; omega]; exact h
theorem hpO_later {i k : Nat} {p : PX} {ps : List PX} {x : Bool × Ent} (h : geth (hpO (i + 1) ps) k = some x) : geth (hpO i (p :: ps)) k = some x := by
  have := hpO_ge h
  cases p <;> simp only [hpO, geth]
  · exact h
  · rw [show (30000 + i == k) = false by simp; omega]; exact h
  · rw [show (30000 + i == k) = false by simp; omega]; exact h

theorem argX_some {h : Hp} {i : Nat} {A : AV} {p : PX} {q : Prop} {L : List (Nat × Nat × Ent)} (hx : argX h i A p = some (q, L)) : (L = [] ∧ hpI i [p] = [] ∧ hpO i [p] = []) ∨ ∃ nm x', L = [(30000 + i, nm, x')] := by
  unfold argX at hx
  split at hx
  · split at hx
    · simp only [Option.some.injEq, Prod.mk.injEq] at hx; exact .inl ⟨hx.2.symm, rfl, rfl⟩
    · cases hx
  · split at hx
    · simp only [Option.some.injEq, Prod.mk.injEq] at hx; exact .inl ⟨hx.2.symm, rfl, rfl⟩
    · split at hx
      · simp only [Option.some.injEq, Prod.mk.injEq] at hx; exact .inl ⟨hx.2.symm, rfl, rfl⟩
      · cases hx
    · cases hx
  · split at hx
    · split at hx
      · simp only [Option.some.injEq, Prod.mk.injEq] at hx; exact .inr ⟨_, _, hx.2.symm⟩
      · cases hx
    · cases hx
  · split at hx
    · split at hx
      · simp only [Option.some.injEq, Prod.mk.injEq] at hx; exact .inr ⟨_, _, hx.2.symm⟩
      · cases hx
    · cases hx
  · cases hx

theorem argsX_spec {h : Hp} : ∀ {as : List AV} {ps : List PX} {i : Nat} {q : Prop} {L : List (Nat × Nat × Ent)}, argsX h i as ps = some (q, L) → q →
    (∀ t ∈ L, 30000 + i ≤ t.1 ∧ (∀ ι, renX L ι t.1 = ι t.2.1) ∧ (∃ x, geth h t.2.1 = some (true, x) ∧ geth (hpI i ps) t.1 = some (true, x)) ∧ geth (hpO i ps) t.1 = some (true, t.2.2)) ∧
    (∀ k x, geth (hpI i ps) k = some (true, x) → ∃ t ∈ L, t.1 = k ∧ geth h t.2.1 = some (true, x)) ∧
    (∀ k x, geth (hpO i ps) k = some (true, x) → ∃ t ∈ L, t.1 = k ∧ t.2.2 = x)
  | [], [], i, q, L, hx, hq => by
    simp only [argsX, Option.some.injEq, Prod.mk.injEq] at hx
    obtain ⟨_, rfl⟩ := hx
    exact ⟨by simp, fun k x h => by simp [hpI, geth] at h, fun k x h => by simp [hpO, geth] at h⟩
  | [], _ :: _, i, q, L, hx, hq => by simp [argsX] at hx
  | _ :: _, [], i, q, L, hx, hq => by simp [argsX] at hx
  | A :: as, p :: ps, i, q, L, hx, hq => by
    simp only [argsX] at hx
    split at hx
    · rename_i q1 L1 q2 L2 e1 e2
      simp only [Option.some.injEq, Prod.mk.injEq] at hx
      obtain ⟨rfl, rfl⟩ := hx
      obtain ⟨a1, a2, a3⟩ := argsX_spec e2 hq.2
      have l1 := argX_live e1 hq.1
      rcases argX_some e1 with ⟨rfl, hI, hO⟩ | ⟨nm, x', rfl⟩
      · simp only [List.nil_append]
        refine ⟨fun t ht => ?_, fun k x hk => ?_, fun k x hk => ?_⟩
        · obtain ⟨b1, b2, ⟨x, b3, b4⟩, b5⟩ := a1 t ht
          exact ⟨by omega, b2, ⟨x, b3, hpI_later b4⟩, hpO_later b5⟩
        · rcases hpI_split hk with ⟨_, h1⟩ | h1
          · rw [hI] at h1; simp [geth] at h1
          · exact a2 k x h1
        · rcases hpO_split hk with ⟨_, h1⟩ | h1
          · rw [hO] at h1; simp [geth] at h1
          · exact a3 k x h1
      · obtain ⟨_, _, ⟨x, c1, c2⟩, c3⟩ := l1 (30000 + i, nm, x') (by simp)
        simp only at c1 c2 c3
        simp only [List.singleton_append]
        refine ⟨fun t ht => ?_, fun k y hk => ?_, fun k y hk => ?_⟩
        · simp only [List.mem_cons] at ht
          rcases ht with rfl | ht
          · exact ⟨Nat.le_refl _, fun ι => by simp [renX], ⟨x, c1, by rw [hpI_cons]; exact geth_append c2⟩, by rw [hpO_cons]; exact geth_append c3⟩
          · obtain ⟨b1, b2, ⟨x, b3, b4⟩, b5⟩ := a1 t ht
            refine ⟨by omega, fun ι => ?_, ⟨x, b3, hpI_later b4⟩, hpO_later b5⟩
            simp only [renX]
            rw [if_neg (by omega)]; exact b2 ι
        · rcases hpI_split hk with ⟨rfl, h1⟩ | h1
          · rw [c2] at h1; simp only [Option.some.injEq, Prod.mk.injEq, true_and] at h1
            exact ⟨(30000 + i, nm, x'), by simp, rfl, by simp only; rw [c1, h1]⟩
          · obtain ⟨t, h2, h3⟩ := a2 k y h1
            exact ⟨t, by simp [h2], h3⟩
        · rcases hpO_split hk with ⟨rfl, h1⟩ | h1
          · rw [c3] at h1; simp only [Option.some.injEq, Prod.mk.injEq, true_and] at h1
            exact ⟨(30000 + i, nm, x'), by simp, rfl, h1⟩
          · obtain ⟨t, h2, h3⟩ := a3 k y h1
            exact ⟨t, by simp [h2], h3⟩
    · cases hx

mutual
theorem toD_repG {okc : Nat → Prop} (S : SimI C σ ι a w) (h1 : ∀ b, okOf C.F σ.h ι w b → okc b) : ∀ (x : AV) (v : Value) (d : D) (p : Prop), (∀ nm y b c, x.refs nm = true → geth σ.h nm = some (true, y) → ι nm = some (b, c) → okc b) →
    RepA (okOf C.F σ.h ι w) ι w x v → toD σ.h x = some (d, p) → p → RepD okc w d v
  | .dat d', v, d, p, h2, h, ht, hp => by
    simp only [toD, Option.some.injEq, Prod.mk.injEq] at ht
    obtain ⟨rfl, _⟩ := ht
    simp only [RepA] at h
    exact RepD.tr h1 (fun _ _ => rfl) _ _ h
  | .vw nm oo m n, v, d, p, h2, h, ht, hp => by
    simp only [toD] at ht
    split at ht
    · rename_i g' T n' l hh
      cases hn : n == n'
      · simp [hn] at ht
      · simp only [hn, cond_true, Option.some.injEq, Prod.mk.injEq] at ht
        simp only [beq_iff_eq] at hn; subst hn
        obtain ⟨rfl, rfl⟩ := ht
        obtain ⟨rfl, hle⟩ := hp
        simp only [RepA] at h
        have hlen : ((l.drop oo).take m).length = m := by simp; omega
        simp only [RepD]
        rcases h with ⟨hi, rfl, rfl, rfl⟩ | ⟨b, c, hi, rfl, hoc⟩
        · exact ⟨by simp, .inl ⟨by simp, _, _, rfl⟩⟩
        · rcases S.ent nm _ hh with ⟨e1, _⟩ | ⟨b', cap, cur, e1, e2, e3, e4, e5, e6, e7⟩
          · rw [hi] at e1; cases e1
          · rw [hi] at e1; simp only [Option.some.injEq, Prod.mk.injEq] at e1
            obtain ⟨rfl, rfl⟩ := e1
            refine ⟨by omega, .inr ⟨b, oo * n, c - oo, _, by rw [hlen], by omega, h2 nm _ b c (by simp [AV.refs]) hh hi, RepDss.tr h1 (fun _ _ => rfl) _ _ _ (RepDss_take m (RepDss_drop oo e7)), ?_⟩⟩
            have hc := cellsAt_take (k := m * n) (cellsAt_drop (k := oo * n) (cellsAt_take (k := l.length * n) (cellsAt_block (o := 0) e3)))
            simpa using hc
    · cases ht
  | .agg l, v, d, p, h2, h, ht, hp => by
    simp only [toD] at ht
    split at ht
    · rename_i ds q hds
      simp only [Option.some.injEq, Prod.mk.injEq] at ht
      obtain ⟨rfl, rfl⟩ := ht
      simp only [RepA] at h
      obtain ⟨vs, rfl, h⟩ := h
      simp only [RepD]
      exact ⟨vs, rfl, toDs_repG S h1 l vs ds q (fun nm y b c hr => h2 nm y b c (by simpa only [AV.refs] using hr)) h hds hp⟩
    · cases ht
  | .rp l, v, d, p, _, h, ht, hp => by
    simp only [toD, Option.some.injEq, Prod.mk.injEq] at ht
    obtain ⟨rfl, _⟩ := ht
    simp only [RepA, RepD] at h ⊢
    obtain ⟨b, o, vs, e, hb, h2, h3⟩ := h
    exact ⟨b, o, vs, e, h1 b hb, RepDs.tr h1 (fun _ _ => rfl) _ _ h2, h3⟩
  | .pt nm oo, v, d, p, hr, h, ht, hp => by
    simp only [toD] at ht
    split at ht
    · rename_i g' T c hh
      split at ht
      · rename_i ds hds
        simp only [Option.some.injEq, Prod.mk.injEq] at ht
        obtain ⟨rfl, rfl⟩ := ht
        subst hp
        simp only [RepA, RepD] at h ⊢
        obtain ⟨b, cc, hi, rfl⟩ := h
        obtain ⟨b', cap, cur, e1, h2, h3, h4⟩ := S.ent nm _ hh
        rw [hi] at e1; simp only [Option.some.injEq, Prod.mk.injEq] at e1
        obtain ⟨rfl, rfl⟩ := e1
        have h5 := RepAs_drop oo h4
        rw [allDat_eq hds] at h5
        exact ⟨b, oo, _, rfl, hr nm _ b cc (by simp [AV.refs]) hh hi, RepDs.tr h1 (fun _ _ => rfl) _ _ (RepAs_dat.1 h5), cellsAt_block h3⟩
      · cases ht
    · cases ht
  | .un, v, d, p, _, h, ht, hp | .tup _, v, d, p, _, h, ht, hp | .ep .., v, d, p, _, h, ht, hp | .gd .., v, d, p, _, h, ht, hp | .pin .., v, d, p, _, h, ht, hp | .cl .., v, d, p, _, h, ht, hp | .mp .., v, d, p, _, h, ht, hp => by simp [toD] at ht
theorem toDs_repG {okc : Nat → Prop} (S : SimI C σ ι a w) (h1 : ∀ b, okOf C.F σ.h ι w b → okc b) : ∀ (l : List AV) (vs : List Value) (ds : List D) (p : Prop), (∀ nm y b c, AV.refsL nm l = true → geth σ.h nm = some (true, y) → ι nm = some (b, c) → okc b) →
    RepAs (okOf C.F σ.h ι w) ι w true l vs → toDs σ.h l = some (ds, p) → p → RepDs okc w ds vs
  | [], vs, ds, p, h2, h, ht, hp => by
    simp only [toDs, Option.some.injEq, Prod.mk.injEq] at ht
    obtain ⟨rfl, _⟩ := ht
    simpa only [RepAs, RepDs] using h
  | x :: l, vs, ds, p, h2, h, ht, hp => by
    simp only [toDs] at ht
    split at ht
    · rename_i d p1 ds' p2 e1 e2
      simp only [Option.some.injEq, Prod.mk.injEq] at ht
      obtain ⟨rfl, rfl⟩ := ht
      simp only [RepAs] at h
      obtain ⟨v, vs', rfl, h3, h4, h5⟩ := h
      simp only [RepDs]
      exact ⟨v, vs', rfl, toD_repG S h1 x v d p1 (fun nm y b c hr => h2 nm y b c (by simp [AV.refsL, hr])) h3 e1 hp.1, by simpa using h4, toDs_repG S h1 l vs' ds' p2 (fun nm y b c hr => h2 nm y b c (by simp [AV.refsL, hr])) h5 e2 hp.2⟩
    · cases ht
end

theorem argsX_rep {okc : Nat → Prop} {ιc : Nat → Option (Nat × Nat)} {nms : List Nat} (S : SimI C σ ι a w) (h1 : ∀ b, okOf C.F σ.h ι w b → okc b)
    (h2 : ∀ nm y b c, nm ∉ nms → geth σ.h nm = some (true, y) → ι nm = some (b, c) → okc b) :
    ∀ {as : List AV} {ps : List PX} {i : Nat} {q : Prop} {L : List (Nat × Nat × Ent)} {vs : List Value}, argsX σ.h i as ps = some (q, L) → q → roX nms as ps = true →
      (∀ t ∈ L, ιc t.1 = ι t.2.1) → vs.length = as.length → (∀ (k : Nat) (A : AV) (v : Value), as[k]? = some A → vs[k]? = some v → RepA (okOf C.F σ.h ι w) ι w A v) → RepX okc ιc w i ps vs
  | [], [], i, q, L, vs, hx, hq, hro, hL, hl, hr => by simp only [RepX]; simpa using hl
  | [], _ :: _, i, q, L, vs, hx, _, _, _, _, _ => by simp [argsX] at hx
  | _ :: _, [], i, q, L, vs, hx, _, _, _, _, _ => by simp [argsX] at hx
  | A :: as, p :: ps, i, q, L, [], hx, hq, hro, hL, hl, hr => by simp at hl
  | A :: as, p :: ps, i, q, L, v :: vs, hx, hq, hro, hL, hl, hr => by
    simp only [argsX] at hx
    split at hx
    · rename_i q1 L1 q2 L2 e1 e2
      simp only [Option.some.injEq, Prod.mk.injEq] at hx
      obtain ⟨rfl, rfl⟩ := hx
      have hro' : roX nms as ps = true := by
        cases p <;> simp only [roX, Bool.and_eq_true] at hro
        · exact hro.2
        · exact hro
        · exact hro
      have ih := argsX_rep S h1 h2 e2 hq.2 hro' (fun t ht => hL t (by simp [ht])) (by simpa using hl) (fun k B u hB hu => hr (k + 1) B u (by simpa using hB) (by simpa using hu))
      have hA := hr 0 A v rfl rfl
      simp only [RepX]
      refine ⟨v, vs, rfl, ?_, ih⟩
      have q1' := hq.1
      unfold argX at e1
      split at e1
      · rename_i d
        split at e1
        · rename_i d' pp ht
          simp only [Option.some.injEq, Prod.mk.injEq] at e1
          obtain ⟨rfl, _⟩ := e1
          obtain ⟨rfl, hpp⟩ := q1'
          simp only [PX.av, RepA]
          simp only [roX, Bool.and_eq_true, List.all_eq_true, Bool.not_eq_true'] at hro
          exact toD_repG S h1 A v _ pp (fun nm y b c hrf hy hi => h2 nm y b c (fun hm => by have := hro.1 nm hm; rw [hrf] at this; cases this) hy hi) hA ht hpp
        · cases e1
      · rename_i l
        split at e1
        · simp only [Option.some.injEq, Prod.mk.injEq] at e1
          obtain ⟨rfl, _⟩ := e1
          subst q1'
          simp only [PX.av]
          simp only [RepA] at hA ⊢
          obtain ⟨b, o, vs', e, hb, k1, k2⟩ := hA
          exact ⟨b, o, vs', e, h1 b hb, RepDs.tr h1 (fun _ _ => rfl) _ _ k1, k2⟩
        · rename_i nm oo
          split at e1
          · rename_i g' T c hg
            simp only [Option.some.injEq, Prod.mk.injEq] at e1
            obtain ⟨rfl, _⟩ := e1
            obtain ⟨rfl, hc⟩ := q1'
            simp only [PX.av]
            simp only [RepA] at hA ⊢
            obtain ⟨b, cc, hi, rfl⟩ := hA
            obtain ⟨b', cap, cur, k1, k2, k3, k4⟩ := S.ent nm _ hg
            rw [hi] at k1; simp only [Option.some.injEq, Prod.mk.injEq] at k1
            obtain ⟨rfl, rfl⟩ := k1
            have hok : okc b := by
              simp only [roX, Bool.and_eq_true, List.all_eq_true, Bool.not_eq_true'] at hro
              exact h2 nm _ b cc (fun hm => by have := hro.1 nm hm; simp [AV.refs] at this) hg hi
            have k5 := RepAs_drop oo k4
            rw [hc] at k5
            exact ⟨b, oo, _, rfl, hok, RepDs.tr h1 (fun _ _ => rfl) _ _ (RepAs_dat.1 k5), cellsAt_block k3⟩
          · cases e1
        · cases e1
      · split at e1
        · rename_i nm o' m' n'
          split at e1
          · simp only [Option.some.injEq, Prod.mk.injEq] at e1
            obtain ⟨rfl, rfl⟩ := e1
            obtain ⟨_, _, rfl, rfl, rfl⟩ := q1'
            have := hL _ (List.mem_append_left _ (List.mem_singleton.2 rfl))
            simp only at this
            simp only [PX.av]
            simp only [RepA, this] at hA ⊢
            exact hA
          · cases e1
        · cases e1
      · split at e1
        · rename_i nm o'
          split at e1
          · simp only [Option.some.injEq, Prod.mk.injEq] at e1
            obtain ⟨rfl, rfl⟩ := e1
            obtain ⟨_, _, _, rfl⟩ := q1'
            have := hL _ (List.mem_append_left _ (List.mem_singleton.2 rfl))
            simp only at this
            simp only [PX.av]
            simp only [RepA, this] at hA ⊢
            exact hA
          · cases e1
        · cases e1
      · cases e1
    · cases hx

theorem hpX_get {L : List (Nat × Nat × Ent)} {h : Hp} {nm : Nat} {y : Ent} (hg : geth (hpX L ++ h) nm = some (true, y)) : (∃ t ∈ L, t.2.1 = nm ∧ t.2.2 = y) ∨ ((∀ t ∈ L, t.2.1 ≠ nm) ∧ geth h nm = some (true, y)) := by
  induction L with
  | nil => exact .inr ⟨by simp, by simpa [hpX] using hg⟩
  | cons s l ih =>
    simp only [hpX, List.map_cons, List.cons_append, geth] at hg
    cases hs : s.2.1 == nm
    · rw [hs, cond_false] at hg
      rcases ih hg with ⟨t, h1, h2⟩ | ⟨h1, h2⟩
      · exact .inl ⟨t, by simp [h1], h2⟩
      · refine .inr ⟨fun t ht => ?_, h2⟩
        simp only [List.mem_cons] at ht
        rcases ht with rfl | ht
        · simpa using hs
        · exact h1 t ht
    · rw [hs, cond_true] at hg
      simp only [Option.some.injEq, Prod.mk.injEq, true_and] at hg
      exact .inl ⟨s, by simp, by simpa using hs, hg⟩

theorem noDup_inj : ∀ {L : List (Nat × Nat × Ent)}, noDup (nmsX L) = true → ∀ {s t : Nat × Nat × Ent}, s ∈ L → t ∈ L → s.2.1 = t.2.1 → s = t
  | [], _, s, t, hs, _, _ => by simp at hs
  | x :: L, h, s, t, hs, ht, e => by
    simp only [nmsX, List.map_cons, noDup, Bool.and_eq_true, Bool.not_eq_true'] at h
    have hx : ∀ u ∈ L, u.2.1 ≠ x.2.1 := by
      intro u hu he
      have : (List.map (fun t : Nat × Nat × Ent => t.2.1) L).contains x.2.1 = true := by
        rw [List.contains_eq_mem, decide_eq_true_eq, List.mem_map]; exact ⟨u, hu, he⟩
      rw [h.1] at this; cases this
    simp only [List.mem_cons] at hs ht
    rcases hs with rfl | hs
    · rcases ht with rfl | ht
      · rfl
      · exact absurd e.symm (hx t ht)
    · rcases ht with rfl | ht
      · exact absurd e (hx s hs)
      · exact noDup_inj h.2 hs ht e

theorem pkl_rep (S : SimI C σ ι a w) (hg : g = true) (args : List Operand) (hp : pkl g (args.map (opnd σ.e))) : ∀ (k : Nat) (A : AV) (v : Value), ((args.map (opnd σ.e)).map sp)[k]? = some A → (args.map a.eval)[k]? = some v → RepA (okOf C.F σ.h ι w) ι w A v := by
  intro k A v hA hv
  simp only [List.getElem?_map, Option.map_eq_some_iff] at hA hv
  obtain ⟨_, ⟨x, hx, rfl⟩, rfl⟩ := hA
  obtain ⟨y, hy, rfl⟩ := hv
  rw [hx] at hy; simp only [Option.some.injEq] at hy; subst hy
  have : pk g (opnd σ.e x) := by
    clear S hg
    induction args generalizing k with
    | nil => simp at hx
    | cons z l ih =>
      simp only [List.map_cons, pkl] at hp
      cases k with
      | zero => simp at hx; subst hx; exact hp.1
      | succ k => exact ih hp.2 k (by simpa using hx)
  exact S.sopnd hg x this

theorem run_enter {f : FuncId} {args : Array Operand} {ts : Array TypeId} (ho : o.op = .call ⟨.value (.func f), args, ts⟩) (hf : isFn C.P f = true) (a : Act) (w : World) : (execOp a.eval o).run C.P w = .ok (.enter f (args.map a.eval)) w := by
  unfold isFn at hf
  cases hfn : C.P.funcs[f]? with
  | none => simp [hfn] at hf
  | some fn =>
    simp only [hfn, Bool.and_eq_true, Bool.not_eq_true'] at hf
    obtain ⟨h1, h2⟩ := hf
    have h1' : ¬ fn.name = "runtime.NumGoroutine" := by simpa using h1
    have h3' : ¬ fn.body = none := by intro hb; simp [hb] at h2
    simp [execOp, ho, resolve, Act.eval, Deferred.ofValue, invoke, callFunc, hfn, h1', h3']

theorem RepAs_dats {ok ok' : Nat → Prop} {ι ι' : Nat → Option (Nat × Nat)} {w : World} (hok : ∀ b, ok b → ok' b) : ∀ {c : List AV} {vs : List Value}, AV.dats c = true → RepAs ok ι w true c vs → RepAs ok' ι' w true c vs
  | [], vs, _, h => by simpa only [RepAs] using h
  | a :: l, vs, hp, h => by
    simp only [RepAs] at h ⊢
    obtain ⟨v, vs', e, h1, h2, h3⟩ := h
    cases a with
    | dat d =>
      simp only [AV.dats] at hp
      simp only [RepA] at h1
      exact ⟨v, vs', e, by simp only [RepA]; exact RepD.tr hok (fun _ _ => rfl) _ _ h1, h2, RepAs_dats hok hp h3⟩
    | _ => simp [AV.dats] at hp
theorem hpI_dats : ∀ {l : List PX} {i k T : Nat} {c : List AV}, PX.plains l = true → geth (hpI i l) k = some (true, .box T c) → AV.dats c = true
  | [], i, k, T, c, _, h => by simp [hpI, geth] at h
  | p :: l, i, k, T, c, hp, h => by
    simp only [PX.plains, Bool.and_eq_true] at hp
    rcases hpI_split h with ⟨_, h1⟩ | h1
    · cases p <;> simp only [hpI, geth] at h1
      · cases h1
      · cases hs : 30000 + i == k
        · rw [hs] at h1; cases h1
        · rw [hs, cond_true] at h1
          simp only [Option.some.injEq, Prod.mk.injEq, true_and] at h1
          subst h1; simp [PX.plain, Ent.isArr] at hp
      · cases hs : 30000 + i == k
        · rw [hs] at h1; cases h1
        · rw [hs, cond_true] at h1
          simp only [Option.some.injEq, Prod.mk.injEq, Ent.box.injEq, true_and] at h1
          obtain ⟨rfl, rfl⟩ := h1
          simp only [PX.plain, Bool.and_eq_true] at hp; exact hp.1.1
    · exact hpI_dats hp.2 h1

theorem snd_callX {Δ : FuncId → List AV → Hp → Option (List PX × RV)} {f : Nat} {args : Array Operand} {ts : Array TypeId} {out : Out} (ho : o.op = .call ⟨.value (.func f), args, ts⟩)
    (h : vCallX C.P Δ f g σ (args.toList.map (opnd σ.e)) = some out) : SndW C o g σ out := by
  unfold vCallX at h
  split at h
  · cases h
  · rename_i ps r hΔ
    split at h
    · cases h
    · rename_i p L hL
      cases hc : (noDup (nmsX L) && roX (nmsX L) ((args.toList.map (opnd σ.e)).map sp) ps && r.flat && isFn C.P f)
      · rw [hc] at h; cases h
      · simp only [hc, cond_true, Option.some.injEq] at h; subst h
        simp only [Bool.and_eq_true] at hc
        obtain ⟨⟨⟨c1, c2⟩, c3⟩, c4⟩ := hc
        intro ι a w S hg hs K Q hK
        obtain ⟨s1, s2, s3, s4, s5⟩ := hs
        obtain ⟨a1, a2, a3⟩ := argsX_spec hL s2
        have hok : ∀ b, okOf C.F σ.h ι w b → okOf (fun _ => False) (hpI 0 ps) (renX L ι) w b := by
          intro b hb
          refine ⟨hb.1, fun k x c hx hi => ?_, not_false⟩
          obtain ⟨t, t1, rfl, t3⟩ := a2 k x hx
          rw [(a1 t t1).2.1] at hi
          exact hb.2.1 _ x c t3 hi
        have hok2 : ∀ nm y b c, nm ∉ nmsX L → geth σ.h nm = some (true, y) → ι nm = some (b, c) → okOf (fun _ => False) (hpI 0 ps) (renX L ι) w b := by
          intro nm y b c hn hy hi
          refine ⟨S.live_lt hy hi, fun k x c' hx hi' => ?_, not_false⟩
          obtain ⟨t, t1, rfl, t3⟩ := a2 k x hx
          rw [(a1 t t1).2.1] at hi'
          refine S.inj nm t.2.1 y x b c c' hy t3 (fun e => hn ?_) hi hi'
          rw [e]; exact List.mem_map.2 ⟨t, t1, rfl⟩
        unfold Oper.wp
        rw [run_enter ho c4 a w]
        have hargs := argsX_rep (okc := okOf (fun _ => False) (hpI 0 ps) (renX L ι) w) (ιc := renX L ι) (vs := (args.map a.eval).toList) S hok hok2 hL s2 c2 (fun t ht => (a1 t ht).2.1 ι) (by simp) (by
          have := pkl_rep S hg args.toList s1
          simpa using this)
        have hcall := s5 w (args.map a.eval) (renX L ι) (fun k x hx => ?_) (fun k k' x x' b c c' hx hx' hne hi hi' => ?_) hargs
        · refine hcall.mono ?_
          rintro e w' ⟨v, rfl, ⟨w1, w2, w3, w4⟩, hsame, hents, hr⟩
          have hlive : ∀ nm y, geth (hpX L ++ σ.h) nm = some (true, y) → ∃ z, geth σ.h nm = some (true, z) := by
            intro nm y hy
            rcases hpX_get hy with ⟨t, t1, rfl, t3⟩ | ⟨_, t2⟩
            · obtain ⟨_, _, ⟨x, x1, _⟩, _⟩ := a1 t t1
              exact ⟨x, x1⟩
            · exact ⟨y, t2⟩
          have hok' : ∀ b, okOf C.F σ.h ι w b → okOf C.F (hpX L ++ σ.h) ι w' b := by
            intro b hb
            refine ⟨Nat.lt_of_lt_of_le hb.1 w4, fun nm y c hy => ?_, hb.2.2⟩
            obtain ⟨z, hz⟩ := hlive nm y hy
            exact hb.2.1 nm z c hz
          have hw : ∀ b, okOf C.F σ.h ι w b → w'.heap[b]? = w.heap[b]? := fun b hb => hsame b (hok b hb)
          have S' : SimI C ⟨σ.e, hpX L ++ σ.h⟩ ι a w' := by
            refine ⟨fun s => RepA.tr hok' hw _ _ (fun _ _ => rfl) (S.env s), fun nm y hy => ?_, fun nm nm' y y' b c c' hy hy' hne hi => ?_, w1.trans S.os, w2.trans S.tape, w3.trans S.output, Nat.le_trans S.size w4, fun k hk hX => ?_, S.def0, S.tms⟩
            · rcases hpX_get hy with ⟨t, t1, rfl, rfl⟩ | ⟨t1, t2⟩
              · obtain ⟨_, b2, ⟨x, x1, _⟩, x3⟩ := a1 t t1
                have E := hents t.1 t.2.2 x3
                have hpl : t.2.2.plain = true := by
                  have : ∀ {l : List PX} {i k : Nat} {x : Ent}, PX.plains l = true → geth (hpO i l) k = some (true, x) → x.plain = true := by
                    intro l
                    induction l with
                    | nil => intro i k x _ h; simp [hpO, geth] at h
                    | cons q l ih =>
                      intro i k x hp hh
                      simp only [PX.plains, Bool.and_eq_true] at hp
                      rcases hpO_split hh with ⟨_, h1⟩ | h1
                      · cases q <;> simp only [hpO, geth] at h1
                        · cases h1
                        all_goals
                          cases hs : 30000 + i == k
                          · rw [hs] at h1; cases h1
                          · rw [hs, cond_true] at h1
                            simp only [Option.some.injEq, Prod.mk.injEq, true_and] at h1
                            subst h1; have := hp.1; simp only [PX.plain, Bool.and_eq_true] at this; exact this.2
                      · exact ih hp.2 h1
                  exact this s3 x3
                refine E.to hpl (fun b c hi => ?_) (b2 ι).symm
                rw [b2] at hi
                have E0 := S.ent t.2.1 x x1
                cases x with
                | box T cc =>
                  obtain ⟨b', cap, cur, k1, k2, _⟩ := E0
                  rw [hi] at k1; simp only [Option.some.injEq, Prod.mk.injEq] at k1
                  rw [k1.1]; exact k2.1
                | arr T n l =>
                  rcases E0 with ⟨k1, _⟩ | ⟨b', cap, cur, k1, k2, _⟩
                  · rw [hi] at k1; cases k1
                  · rw [hi] at k1; simp only [Option.some.injEq, Prod.mk.injEq] at k1
                    rw [k1.1]; exact k2
                | mp n l => obtain ⟨b', es, c', k1, k2, _⟩ := E0; rw [hi] at k1; simp only [Option.some.injEq, Prod.mk.injEq] at k1; rw [k1.1]; exact k2
                | it n l cur => obtain ⟨b', m, es, c', sn, k1, k2, _⟩ := E0; rw [hi] at k1; simp only [Option.some.injEq, Prod.mk.injEq] at k1; rw [k1.1]; exact k2
              · refine (S.ent nm y t2).tr hok' hw (fun b c hi => hsame b (hok2 nm y b c (fun hm => ?_) t2 hi)) rfl (fun _ _ => rfl)
                obtain ⟨t, ht, he⟩ := List.mem_map.1 hm
                exact t1 t ht he
            · obtain ⟨z, hz⟩ := hlive nm y hy
              obtain ⟨z', hz'⟩ := hlive nm' y' hy'
              exact S.inj nm nm' z z' b c c' hz hz' hne hi
            · rw [hsame k, S.old k hk hX]
              refine ⟨Nat.lt_of_lt_of_le hk S.size, fun nm x c hx hi => ?_, not_false⟩
              obtain ⟨t, t1, rfl, t3⟩ := a2 nm x hx
              rw [(a1 t t1).2.1] at hi
              rcases own_of_live S t3 hi with h | h
              · omega
              · exact hX h
          refine hK v w' ι trivial S' ?_
          exact still_rep r v [] (ok := fun _ => False) (fun b hb => hb.elim) (by simp) (RepR_plain r v [] s4 hr)
        · obtain ⟨t, t1, rfl, t3⟩ := a2 k x hx
          have hr := (a1 t t1).2.1 ι
          have E := S.ent t.2.1 x t3
          cases x with
          | box T cc =>
            obtain ⟨b, cap, cur, k1, k2, k3, k4⟩ := E
            refine ⟨b, cap, cur, hr.trans k1, ⟨(Array.getElem?_eq_some_iff.1 k3).1, k2.2⟩, k3, ?_⟩
            have hd : AV.dats cc = true := hpI_dats s3 hx
            exact RepAs_dats hok hd k4
          | arr T n l =>
            rcases E with ⟨k1, k2⟩ | ⟨b, cap, cur, k1, k2, k3, k4, k5, k6, k7⟩
            · exact .inl ⟨hr.trans k1, k2⟩
            · exact .inr ⟨b, cap, cur, hr.trans k1, (Array.getElem?_eq_some_iff.1 k3).1, k3, k4, k5, k6, RepDss.tr hok (fun _ _ => rfl) _ _ _ k7⟩
          | mp n l =>
            obtain ⟨b, es, c, k1, k2, k3, k4, k5⟩ := E
            exact ⟨b, es, c, hr.trans k1, (Array.getElem?_eq_some_iff.1 k3).1, k3, RepEs.tr hok (fun _ _ => rfl) k4, k5⟩
          | it n l cur =>
            obtain ⟨b, m, es, c, sn, k1, k2, k3, k4, k5, k6, k7, k8⟩ := E
            exact ⟨b, m, es, c, sn, hr.trans k1, (Array.getElem?_eq_some_iff.1 k3).1, k3, hok m k4, k5, k6, RepEs.tr hok (fun _ _ => rfl) k7, CurOk.tr hok (fun _ _ => rfl) k8⟩
        · obtain ⟨t, t1, rfl, t3⟩ := a2 k x hx
          obtain ⟨t', t1', rfl, t3'⟩ := a2 k' x' hx'
          rw [(a1 t t1).2.1] at hi
          rw [(a1 t' t1').2.1] at hi'
          exact S.inj t.2.1 t'.2.1 x x' b c c' t3 t3' (fun e => hne (by rw [noDup_inj c1 t1 t1' e])) hi hi'

theorem RepDss_spl {ok : Nat → Prop} {w : World} {n k : Nat} {l xs : List (List D)} {vs ws : List Value} (h : RepDss ok w n l vs) (hx : RepDss ok w n xs ws) : RepDss ok w n (spl l k xs) (spl vs (k * n) ws) := by
  have hl := RepDss_length hx
  unfold spl
  rw [hl, ← Nat.add_mul]
  exact RepDss_append (RepDss_append (RepDss_take k h) hx) (RepDss_drop (k + xs.length) h)
theorem spl_take {α : Type} (cl vs : List α) (k L : Nat) (h : k + vs.length ≤ L) : (spl cl k vs).take L = spl (cl.take L) k vs := by
  unfold spl
  by_cases hk : k ≤ cl.length
  · rw [List.take_append, List.take_of_length_le (by simp; omega), List.take_take, Nat.min_eq_left (by omega), List.drop_take]
    congr 2; simp; omega
  · have e1 : cl.drop (k + vs.length) = [] := List.drop_of_length_le (by omega)
    have e2 : (cl.take L).drop (k + vs.length) = [] := List.drop_of_length_le (by simp; omega)
    rw [e1, e2, List.append_nil, List.append_nil, List.take_take, Nat.min_eq_left (by omega), List.take_of_length_le (by simp; omega)]
theorem spl_length {α : Type} (l xs : List α) (k : Nat) (h : k + xs.length ≤ l.length) : (spl l k xs).length = l.length := by
  simp [spl]; omega
theorem SimI.row (S : SimI C σ ι a w) {nm b c T n k : Nat} {l xs : List (List D)} {ws : List Value} (hh : geth σ.h nm = some (true, .arr T n l)) (hi : ι nm = some (b, c)) (hk : k + xs.length ≤ l.length) (hx : RepDss (okOf C.F σ.h ι w) w n xs ws) :
    ∃ w', (storeCells ⟨b, k * n, none⟩ ws).run C.P w = .ok () w' ∧ SimI C ⟨σ.e, (nm, some (true, .arr T n (spl l k xs))) :: σ.h⟩ ι a w' := by
  rcases S.ent nm _ hh with ⟨e1, _⟩ | ⟨b', cap, cur, e1, e2, e3, e4, e5, e6, e7⟩
  · rw [hi] at e1; cases e1
  · rw [hi] at e1; simp only [Option.some.injEq, Prod.mk.injEq] at e1
    obtain ⟨rfl, rfl⟩ := e1
    have lw := RepDss_length hx
    have h1 : k * n + xs.length * n ≤ l.length * n := by rw [← Nat.add_mul]; exact Nat.mul_le_mul_right n hk
    have h2 : l.length * n ≤ cur.size := by rw [e4]; exact Nat.mul_le_mul_right n e5
    have hst := run_storeCells_at C.P b (k * n) T ws 0 cur w e3 (by simp; omega) (RepDss_one hx)
    simp only [Nat.add_zero] at hst
    refine ⟨_, hst, S.write (w' := w.setRow b (spl cur.toList (k * n) ws).toArray) hh hi (setRow_heap w b cur _ T (0, 0) e3) rfl rfl rfl (by simp) (fun k hk => setRow_other w b k _ hk) (fun hok hw => ?_)⟩
    refine .inr ⟨b, c, _, hi, e2, setRow_heap w b cur _ T (0, 0) e3, ?_, by rw [spl_length _ _ _ hk]; exact e5, ⟨e6.1, by rw [spl_length _ _ _ hk]; exact e6.2⟩, ?_⟩
    · simp only [List.size_toArray]
      rw [spl_length _ _ _ (by simp; omega)]; simpa using e4
    · rw [spl_length _ _ _ hk]
      simp only [List.toList_toArray]
      rw [spl_take _ _ _ _ (by omega)]
      exact RepDss_spl (RepDss.tr hok hw n l _ e7) (RepDss.tr hok hw n xs _ hx)

def vClear (P : Program) (T : Nat) (g : Bool) (σ : St) (x : AV) : Option Out :=
  match elOf P T, sp x with
  | some e, .vw nm o m n => match geth σ.h nm, zC P e with
    | some (g', .arr T' n' l), some z => bif szOf P e == n && n == n' && z.length == n && decide (0 < n) && (P.info? e).isSome then
        some ⟨.un, [(nm, some (true, .arr T' n' (spl l o (List.replicate m z))))], pk g x ∧ g' = true ∧ o + m ≤ l.length, True⟩ else none
    | _, _ => none
  | _, _ => none

theorem snd_clear {T : Nat} {x : Operand} {out : Out} (ho : o.op = .call ⟨.builtin .clear, #[x], #[T]⟩) (h : vClear C.P T g σ (opnd σ.e x) = some out) : Snd C o g σ out := by
  unfold vClear at h
  split at h
  · rename_i e nm oo m n he hx
    split at h
    · rename_i g' T' n' l z hh hz
      cases hc : (szOf C.P e == n && n == n' && z.length == n && decide (0 < n) && (C.P.info? e).isSome)
      · rw [hc] at h; cases h
      · simp only [hc, cond_true, Option.some.injEq] at h; subst h
        simp only [Bool.and_eq_true, beq_iff_eq, decide_eq_true_eq] at hc
        obtain ⟨⟨⟨⟨c1, rfl⟩, c3⟩, c4⟩, c5⟩ := hc
        intro ι a w S hg hs
        obtain ⟨s1, rfl, s3⟩ := hs
        have ex := S.sopnd hg x s1
        rw [hx] at ex
        simp only [RepA] at ex
        obtain ⟨cs, hrun⟩ := run_call_builtin (P := C.P) (w := w) (ρ := a.eval) ho
        obtain ⟨i, u, h1, h2, h3⟩ := zC_rep (ok := okOf C.F σ.h ι w) (w := w) hz
        have hzs : u.cells.size = n := by have := RepDs_length h3; simp at this; omega
        have hzv : (zeroValue e).run C.P w = .ok u w := by simp [zeroValue, typeInfo, h1, h2]
        have hu := run_underlying (w := w) (elOf_some he)
        rcases ex with ⟨hi, ev, rfl, rfl⟩ | ⟨b, c, hi, ev, hoc⟩
        · refine ⟨.value (.tuple #[]), w, .tuple #[], ?_, .inl rfl, trivial, ι, ?_, by simp only [RepA]⟩
          · rw [hrun]
            simp [builtin, Builtin.clear_, ev, hu]
          · have hl0 : spl l 0 (List.replicate 0 z) = l := by simp [spl]
            rw [hl0]
            exact S.hcongr (h := σ.h) (e := σ.e) (fun k => by
              simp only [List.cons_append, List.nil_append, geth]
              cases hk : nm == k
              · rfl
              · have : nm = k := by simpa using hk
                subst this; simp [hh])
        · have hrep := RepDss_replicate h3 m
          have hzl : u.cells.toList.length = n := by simpa using hzs
          rw [hzl] at hrep
          have hfl : (Builtin.zeroCells u.cells m).toList = (List.replicate m u.cells.toList).flatten := by
            have := madeCells_flat u.cells m
            rw [← this]; rfl
          rw [← hfl] at hrep
          obtain ⟨w', hst, S'⟩ := S.row hh hi (k := oo) (by simpa using s3) hrep
          by_cases hm : m = 0
          · subst hm
            refine ⟨.value (.tuple #[]), w, .tuple #[], ?_, .inl rfl, trivial, ι, ?_, by simp only [RepA]⟩
            · rw [hrun]
              simp [builtin, Builtin.clear_, ev, hu]
            · have hl0 : spl l oo (List.replicate 0 z) = l := by simp [spl]
              rw [hl0]
              exact S.hcongr (h := σ.h) (e := σ.e) (fun k => by
                simp only [List.cons_append, List.nil_append, geth]
                cases hk : nm == k
                · rfl
                · have : nm = k := by simpa using hk
                  subst this; simp [hh])
          · refine ⟨.value (.tuple #[]), w', .tuple #[], ?_, .inl rfl, trivial, ι, S', by simp only [RepA]⟩
            rw [hrun]
            obtain ⟨m, rfl⟩ := Nat.exists_eq_succ_of_ne_zero hm
            simp [builtin, Builtin.clear_, ev, hu, hzv, hst]
    · cases h
  · cases h

def vCopy (P : Program) (T : Nat) (g : Bool) (σ : St) (x y : AV) : Option Out :=
  match elOf P T, sp x with
  | some e, .vw nm o m n => match geth σ.h nm with
    | some (g', .arr T' n' l) => match srcOf n g σ.h y with
      | some (xs, s2) => bif szOf P e == n && n == n' && (P.info? e).isSome then
          some ⟨.dat (.i ((min xs.length m : Nat) : Int)), [(nm, some (true, .arr T' n' (spl l o (xs.take m))))], pk g x ∧ g' = true ∧ o + m ≤ l.length ∧ s2, True⟩ else none
      | none => none
    | _ => none
  | _, _ => none

theorem snd_copy {T T2 : Nat} {x y : Operand} {out : Out} (ho : o.op = .call ⟨.builtin .copy, #[x, y], #[T, T2]⟩) (h : vCopy C.P T g σ (opnd σ.e x) (opnd σ.e y) = some out) : Snd C o g σ out := by
  unfold vCopy at h
  split at h
  · rename_i e nm oo m n he hx
    split at h
    · rename_i g' T' n' l hh
      split at h
      · rename_i xs s2 hsrc
        cases hc : (szOf C.P e == n && n == n' && (C.P.info? e).isSome)
        · rw [hc] at h; cases h
        · simp only [hc, cond_true, Option.some.injEq] at h; subst h
          simp only [Bool.and_eq_true, beq_iff_eq] at hc
          obtain ⟨⟨c1, rfl⟩, c3⟩ := hc
          intro ι a w S hg hs
          obtain ⟨s1, rfl, s3, s4⟩ := hs
          have ex := S.sopnd hg x s1
          rw [hx] at ex
          simp only [RepA] at ex
          obtain ⟨va, cc, news, ey, hnews, hnil, hcell⟩ := src_rep S hg hsrc s4
          obtain ⟨cs, hrun⟩ := run_call_builtin (P := C.P) (w := w) (ρ := a.eval) ho
          have hu := run_underlying (w := w) (elOf_some he)
          obtain ⟨i, hinfo⟩ := Option.isSome_iff_exists.1 c3
          have his : i.size = n := by rw [← c1]; simp [szOf, hinfo]
          have htk := RepDss_take m hnews
          have hlt : (xs.take m).length = min xs.length m := by simp [Nat.min_comm]
          have hload : (Builtin.firstCells n (Nat.min xs.length m) (.slice va xs.length cc)).run C.P w = .ok (news.take (m * n)).toArray w := by
            cases va with
            | none =>
              have := hnil rfl
              subst this
              have hn0 : news = [] := by simpa [RepDss] using hnews
              simp [Builtin.firstCells, hn0]
            | some p =>
              have hl := run_loadCells_list (P := C.P) w p (news.take (m * n)) (fun j v hv => by
                have hv' : news[j]? = some v := by
                  rw [List.getElem?_take] at hv
                  split at hv
                  · exact hv
                  · cases hv
                exact hcell p rfl j v hv')
              have hlen : (news.take (m * n)).length = Nat.min xs.length m * n := by
                have := RepDss_length htk
                rw [hlt] at this
                exact this
              rw [hlen] at hl
              simpa [Builtin.firstCells] using hl
          rcases ex with ⟨hi, ev, rfl, rfl⟩ | ⟨b, c, hi, ev, hoc⟩
          · refine ⟨.value (goInt 0), w, goInt 0, ?_, .inl rfl, trivial, ι, ?_, ?_⟩
            · rw [hrun]
              have hl0 : (Builtin.firstCells n 0 (.slice va xs.length cc)).run C.P w = .ok #[] w := by
                have := hload
                simpa using this
              simp [builtin, Builtin.copy_, ev, ey, hu, Builtin.lenOf, sizeOf, typeInfo, hinfo, his, hl0]
            · have hl0 : spl l 0 (xs.take 0) = l := by simp [spl]
              rw [hl0]
              exact S.hcongr (h := σ.h) (e := σ.e) (fun k => by
                simp only [List.cons_append, List.nil_append, geth]
                cases hk : nm == k
                · rfl
                · have : nm = k := by simpa using hk
                  subst this; simp [hh])
            · simp [RepA, RepD, goInt]
          · obtain ⟨w', hst, S'⟩ := S.row hh hi (k := oo) (by rw [hlt]; omega) htk
            refine ⟨.value (goInt ((xs.length.min m : Nat) : Int)), w', goInt ((xs.length.min m : Nat) : Int), ?_, .inl rfl, trivial, ι, S', by simp only [RepA, RepD, goInt]⟩
            rw [hrun]
            simp [builtin, Builtin.copy_, ev, ey, hu, Builtin.lenOf, sizeOf, typeInfo, hinfo, his, hload, hst]
      · cases h
    · cases h
  · cases h

def outY (P : Program) (Δ : FuncId → List AV → Hp → Option (List PX × RV)) (o : Oper) (g : Bool) (σ : St) : Option Out :=
  match o.op with
  | .call ⟨.value (.func f), as, _⟩ => vCallX P Δ f g σ (as.toList.map (opnd σ.e))
  | .call ⟨.builtin .clear, as, ts⟩ => match as.toList, ts.toList with
    | [x], [T] => vClear P T g σ (opnd σ.e x)
    | _, _ => none
  | .call ⟨.builtin .copy, as, ts⟩ => match as.toList, ts.toList with
    | [x, y], [T, _] => vCopy P T g σ (opnd σ.e x) (opnd σ.e y)
    | _, _ => none
  | .call ⟨.builtin .len, as, ts⟩ => match as.toList, ts.toList with
    | [x], [T] => vLenM P T g σ (opnd σ.e x)
    | _, _ => none
  | .makeMap T none => match o.dst, mapOf P T with
    | some d, some (n, _, _) => vMkM d n σ
    | some d, none => vMkM d 0 σ
    | _, _ => none
  | .mapUpdate T x y z => vUpd P T g σ (opnd σ.e x) (opnd σ.e y) (opnd σ.e z)
  | .range T x => match o.dst with
    | some d => vRng P d T g σ (opnd σ.e x)
    | none => none
  | .entry x => vEnt g σ (opnd σ.e x)
  | _ => none

theorem outY_snd {Δ : FuncId → List AV → Hp → Option (List PX × RV)} {out : Out} (h : outY C.P Δ o g σ = some out) : SndW C o g σ out := by
  unfold outY at h
  split at h
  · rename_i ho; exact snd_callX ho h
  · rename_i as ts ho
    split at h
    · rename_i x T h1 h2
      have e1 : as = #[x] := arr_one h1
      have e2 : ts = #[T] := arr_one h2
      subst e1 e2
      exact (snd_clear ho h).toW
    · cases h
  · rename_i as ts ho
    split at h
    · rename_i x y T T2 h1 h2
      have e1 : as = #[x, y] := arr_one h1
      have e2 : ts = #[T, T2] := arr_one h2
      subst e1 e2
      exact (snd_copy ho h).toW
    · cases h
  · rename_i as ts ho
    split at h
    · rename_i x T h1 h2
      have e1 : as = #[x] := arr_one h1
      have e2 : ts = #[T] := arr_one h2
      subst e1 e2
      exact (snd_lenM ho h).toW
    · cases h
  · rename_i T ho
    split at h
    · exact (snd_mkM ho h).toW
    · exact (snd_mkM ho h).toW
    · cases h
  · rename_i ho; exact (snd_upd ho h).toW
  · rename_i T x ho
    split at h
    · exact (snd_rng ho h).toW
    · cases h
  · rename_i ho; exact (snd_ent ho h).toW
  · cases h

def outZ (P : Program) (Γ : FuncId → List D → RV) (Δ : FuncId → List AV → Hp → Option (List PX × RV)) (fz : List Nat) (o : Oper) (g : Bool) (σ : St) : Option Out :=
  match outY P Δ o g σ with
  | some out => some out
  | none => outOf P Γ fz o g σ

def stepX (P : Program) (Γ : FuncId → List D → RV) (Δ : FuncId → List AV → Hp → Option (List PX × RV)) (n : Nat) (L : List Oper) (fz : List Nat) (o : Oper) (r : Rn) : Option Rn :=
  bif inB n o.dst then (match o.guard with
    | none => match outZ P Γ Δ fz o true r.σ with
      | some out => some ⟨⟨putA o.dst out.av r.σ.e, out.hp ++ r.σ.h⟩, (false, out.know) :: (true, out.side) :: r.its⟩
      | none => none
    | some (j, want) => match gval L r.σ.e j want with
      | some g => match outZ P Γ Δ fz o g r.σ with
        | some out => some ⟨⟨putA o.dst (.gd g out.av) r.σ.e, hg g out.hp ++ r.σ.h⟩, (false, g = true → out.know) :: (true, g = true → out.side) :: r.its⟩
        | none => none
      | none => none) else none
def runX (P : Program) (Γ : FuncId → List D → RV) (Δ : FuncId → List AV → Hp → Option (List PX × RV)) (n : Nat) (L : List Oper) (fz : List Nat) : List Oper → Option Rn → Option Rn
  | _, none => none
  | [], some r => some r
  | o :: os, some r => runX P Γ Δ n L fz os (stepX P Γ Δ n L fz o r)

theorem outZ_snd {Γ : FuncId → List D → RV} {Δ : FuncId → List AV → Hp → Option (List PX × RV)} {fz : List Nat} {out : Out} (h : outZ C.P Γ Δ fz o g σ = some out) : SndW C o g σ out := by
  unfold outZ at h
  split at h
  · rename_i out' h'
    simp only [Option.some.injEq] at h; subst h
    exact outY_snd h'
  · exact outOf_snd h

theorem stepX_sound {Γ : FuncId → List D → RV} {Δ : FuncId → List AV → Hp → Option (List PX × RV)} {L : List Oper} {fz : List Nat} {r r' : Rn} (h : stepX C.P Γ Δ C.n L fz o r = some r') :
    ∃ its, r'.its = its ++ r.its ∧ ∀ (S' : Prop), fin its S' →
      ∀ ι a w, SimI C r.σ ι a w → ∀ (K : Act → World → Prop) (Q : Exit → Act → World → Prop), (S' → ∀ ι' a' w', SimI C r'.σ ι' a' w' → K a' w') →
        if Region.wanted o (yielded L.toArray a.tmps) then o.wp C.P a w K Q else K (a.put o.dst undef) w := by
  unfold stepX at h
  cases hin : inB C.n o.dst
  · simp [hin] at h
  · simp only [hin, cond_true] at h
    have hput : ∀ {σ' : St} {ι' : Nat → Option (Nat × Nat)} {a : Act} {w' : World} {av : AV} {v : Value}, SimI C σ' ι' a w' → RepA (okOf C.F σ'.h ι' w') ι' w' av v → SimI C ⟨putA o.dst av σ'.e, σ'.h⟩ ι' (a.put o.dst v) w' := by
      intro σ' ι' a w' av v S hr
      cases hd : o.dst with
      | none => simpa only [putA, Act.put] using S
      | some d =>
        simp only [putA]
        refine S.put ?_ hr
        simpa [hd, inB] using hin
    split at h
    · rename_i hgd
      split at h
      · rename_i out ho
        simp only [Option.some.injEq] at h; subst h
        refine ⟨[(false, out.know), (true, out.side)], rfl, fun S' hS ι a w S K Q hK => ?_⟩
        simp only [fin] at hS
        have hw : Region.wanted o (yielded L.toArray a.tmps) = true := by simp [Region.wanted, hgd]
        rw [if_pos hw]
        exact outZ_snd ho ι a w S rfl hS.1 K Q (fun v w' ι' hk S1 hr => hK (hS.2 hk) ι' _ w' (hput (σ' := ⟨r.σ.e, out.hp ++ r.σ.h⟩) S1 hr))
      · cases h
    · rename_i j want hgd
      split at h
      · rename_i g hgv
        split at h
        · rename_i out ho
          simp only [Option.some.injEq] at h; subst h
          refine ⟨[(false, g = true → out.know), (true, g = true → out.side)], rfl, fun S' hS ι a w S K Q hK => ?_⟩
          simp only [fin] at hS
          rw [gval_rep S hgd hgv]
          cases g with
          | true =>
            simp only [if_true]
            refine outZ_snd ho ι a w S rfl (hS.1 rfl) K Q (fun v w' ι' hk S1 hr => hK (hS.2 (fun _ => hk)) ι' _ w' ?_)
            rw [hg_true]
            exact hput (σ' := ⟨r.σ.e, out.hp ++ r.σ.h⟩) S1 (by simp only [RepA]; exact ⟨(fun _ => hr), (fun h => by cases h)⟩)
          | false =>
            simp only [Bool.false_eq_true, if_false]
            refine hK (hS.2 (fun h => by cases h)) ι _ w ?_
            exact hput (σ' := ⟨r.σ.e, hg false out.hp ++ r.σ.h⟩) (hg_false (e := r.σ.e) (h := out.hp) (h0 := r.σ.h) S) (by simp only [RepA]; exact ⟨(fun h => by cases h), (fun _ => trivial)⟩)
        · cases h
      · cases h

theorem runX_none {P : Program} {Γ : FuncId → List D → RV} {Δ : FuncId → List AV → Hp → Option (List PX × RV)} {n : Nat} {L : List Oper} {fz : List Nat} : ∀ {os : List Oper}, runX P Γ Δ n L fz os none = none
  | [] => rfl
  | _ :: _ => rfl

theorem runX_sound {Γ : FuncId → List D → RV} {Δ : FuncId → List AV → Hp → Option (List PX × RV)} {L : List Oper} {fz : List Nat} {K : St → Prop} {Q : Exit → Act → World → Prop} (hQ : ∀ σ a w, K σ → Sim C σ a w → Q .normal a w) :
    ∀ (os : List Oper) (k : Nat) (r : Rn), L.drop k = os → Hold (runX C.P Γ Δ C.n L fz os (some r)) K → fin r.its (∀ ι a w, SimI C r.σ ι a w → wpOps C.P L.toArray Q (List.range' k os.length) a w)
  | [], k, r, hk, h => by
    simp only [runX, Hold] at h
    refine fin_mono (fun hK ι a w S => ?_) h
    simp only [List.length_nil, List.range'_zero, wpOps]
    exact hQ _ a w hK ⟨ι, S⟩
  | o :: os, k, r, hk, h => by
    simp only [runX] at h
    cases hs : stepX C.P Γ Δ C.n L fz o r with
    | none => rw [hs, runX_none] at h; exact h.elim
    | some r' =>
      rw [hs] at h
      obtain ⟨its, hi, hstep⟩ := stepX_sound hs
      have hk' : L.drop (k + 1) = os := by rw [← List.drop_drop, hk]; rfl
      have ho : L[k]? = some o := by
        have := congrArg (·[0]?) hk
        simpa using this
      have ih := runX_sound hQ os (k + 1) r' hk' h
      rw [hi] at ih
      refine fin_mono (fun hS ι a w S => ?_) (fin_append ih)
      simp only [List.length_cons, List.range'_succ, wpOps, List.getElem?_toArray, ho]
      have h1 := hstep _ hS ι a w S (wpOps C.P L.toArray Q (List.range' (k + 1) os.length)) Q (fun hh ι' a' w' S' => hh ι' a' w' S')
      split
      · rename_i hw; rw [if_pos hw] at h1; exact .inl h1
      · rename_i hw; rw [if_neg hw] at h1; exact h1

theorem WA_regionX {K R : St → Prop} {E : Nat → St → Prop} {id : Nat} {ops : Array Oper} (Γ : FuncId → List D → RV) (Δ : FuncId → List AV → Hp → Option (List PX × RV)) (fz V : List Nat) (h : Hold (runX C.P Γ Δ C.n ops.toList fz ops.toList (some ⟨σ, []⟩)) (fun σ' => K (gather V σ'))) : WA C (.region id ops false) K R E σ := by
  unfold WA
  intro a w S
  obtain ⟨ι, S⟩ := S
  have h1 := runX_sound (C := C) (Q := QQ C K R E) (K := fun σ' => K (gather V σ')) (fun σ a w hk hs => ⟨_, hk, hs.gather V⟩) ops.toList 0 ⟨σ, []⟩ (by simp) h
  simp only [fin] at h1
  have h2 := h1 ι a w S
  refine wp_region ?_
  simpa [List.range_eq_range'] using h2
theorem V_regionX {K R : St → Prop} {E : Nat → St → Prop} {id : Nat} {ops : Array Oper} (Γ : FuncId → List D → RV) (Δ : FuncId → List AV → Hp → Option (List PX × RV)) (fz V : List Nat) (h : Ev (Hold (runX C.P Γ Δ C.n ops.toList fz ops.toList (some ⟨σ, []⟩)) (fun σ' => K (gather V σ')))) : WA C (.region id ops false) K R E σ := WA_regionX Γ Δ fz V h.out

theorem wa_id {K R : St → Prop} {E : Nat → St → Prop} {c : Code} (h : WA C c K R E σ) : WA C c K R E σ := h

theorem Fn.mono {P : Program} {f : FuncId} {ds ds' : List D} {r : RV} (hd : ∀ (ok : Nat → Prop) (w : World) (vs : List Value), RepL ok w ds vs → RepL ok w ds' vs) (h : Fn P f ds' r) : Fn P f ds r :=
  fun w vs G hv => h w vs G (hd _ w _ hv)
def Jn {α : Type} (f : α → List (Nat × AV)) (fh : α → Hp) (e0 : List (Nat × AV)) (h0 : Hp) (I : α → Prop) (σ' : St) : Prop :=
  ∃ x' ρ, I x' ∧ Sub ρ σ' ⟨f x' ++ e0, fh x' ++ h0⟩
theorem FnX.by {P : Program} {f : FuncId} {fn : Func} {ps : List PX} {r : RV} (n : Nat) (rv : List ResultVar) (hf : P.funcs[f]? = some fn) (hb : fn.body = some (fcd fn [])) (hn : fn.ntmps = n) (hrv : fn.results.toList = rv) (hl : ps.length ≤ n) (hpl : PX.plains ps = true) (hfl : r.flat = true)
    (h : ∀ w0 X u, WA ⟨P, w0, X, n, fun _ => False⟩ (fcd fn []) (fun σ => Ret P rv r σ ∧ outX u σ 0 ps) (fun σ => Ret P rv r σ ∧ outX u σ 0 ps) (fun _ _ => False) ⟨pinned 0 u ps, hpI 0 ps⟩) : FnX P f ps r := by
  subst hn hrv
  exact FnX.of hf hb hl hpl hfl h
end
end Go.Eng

set_option linter.unusedSimpArgs false
set_option linter.unusedVariables false
namespace Go.Eng
open Go.RowKit

def acc (o : Oper) : Option (Bool × Nat × Operand) := match o.op with
  | .load T x => some (false, T, x)
  | .store T x _ => some (true, T, x)
  | _ => none
def adOf : List (Nat × Nat × Nat) → Nat → Option (Nat × Nat)
  | [], _ => none
  | (j, nm, k) :: l, i => bif j == i then some (nm, k) else adOf l i
def isPt (nm : Nat) : AV → Prop
  | .pt m _ => m = nm
  | _ => False
def adOk (P : Program) (A : List (Nat × Nat × Nat)) (o : Oper) (i : Nat) (e : List (Nat × AV)) : Prop := match adOf A i with
  | none => True
  | some (nm, k) => match acc o with
    | some (b, T, x) => (bif decide (k < 1000000) then sp (opnd e x) = .pt nm k ∧ tyOf P T = some (1, false) else isPt nm (sp (opnd e x))) ∧ o.guard = none ∧ (b = true → o.dst = none)
    | none => False

section
variable {P : Program} {Γ : FuncId → List D → RV} {fz : List Nat} {L : List Oper} {σ σ' : St} {o : Oper} {g : Bool} {ops : Array Oper} {A : List (Nat × Nat × Nat)}

end
def sepA (A : List (Nat × Nat × Nat)) (i j : Nat) : Bool := match adOf A i, adOf A j with
  | some (nm, k), some (nm', k') => !(nm == nm' && (k == k' || decide (1000000 ≤ k) || decide (1000000 ≤ k')))
  | _, _ => false
def okPairA (ops : Array Oper) (A : List (Nat × Nat × Nat)) (i j : Nat) (x y : Oper) : Bool := okPair ops x y || (x.apart ops y && sepA A i j)
def LxA (P : Program) (Γ : FuncId → List D → RV) (ops : Array Oper) (fz : List Nat) (A : List (Nat × Nat × Nat)) : List Nat → St → St → Prop
  | [], σ, τ => τ = σ
  | i :: l, σ, τ => ∃ o σ' p, ops[i]? = some o ∧ stepD P Γ ops.toList fz o σ = some (σ', p) ∧ p ∧ adOk P A o i σ.e ∧ LxA P Γ ops fz A l σ' τ
def stepQA (P : Program) (Γ : FuncId → List D → RV) (A : List (Nat × Nat × Nat)) (L : List Oper) (fz : List Nat) (k : Nat) (o : Oper) (r : Rn) : Option Rn :=
  match stepQ P Γ L fz o r with
  | some r' => some ⟨r'.σ, (true, adOk P A o k r.σ.e) :: r'.its⟩
  | none => none
def runQA (P : Program) (Γ : FuncId → List D → RV) (A : List (Nat × Nat × Nat)) (L : List Oper) (fz : List Nat) : Nat → List Oper → Option Rn → Option Rn
  | _, _, none => none
  | _, [], some r => some r
  | k, o :: os, some r => runQA P Γ A L fz (k + 1) os (stepQA P Γ A L fz k o r)
def chkIA (ops : Array Oper) (A : List (Nat × Nat × Nat)) (m : List Nat) (i : Nat) (oi : Oper) : Bool :=
  (edg oi).all (fun t => decide (t < i)) && (List.range i).all fun j =>
    bif (m.getD i 0).testBit j then (edg oi).any (fun t => t == j || (decide (j < t) && (m.getD t 0).testBit j))
    else match ops[j]? with
      | some oj => okPairA ops A j i oj oi
      | none => true
def chkDA (n : Nat) (ops : Array Oper) (A : List (Nat × Nat × Nat)) (m : List Nat) : Bool :=
  decide (n ≤ 10000) && ops.toList.all (fun o => inB n o.dst) && (List.range ops.size).all fun i => match ops[i]? with
    | some oi => chkIA ops A m i oi
    | none => true

section
variable {P : Program} {Γ : FuncId → List D → RV} {fz : List Nat} {L : List Oper} {σ σ' : St} {o : Oper} {g : Bool} {ops : Array Oper} {A : List (Nat × Nat × Nat)}
end

section
variable {n : Nat} {ops : Array Oper} {A : List (Nat × Nat × Nat)} {m : List Nat} {listed : Array Bool}

end

section
variable {C : Ctx} {Γ : FuncId → List D → RV} {fz : List Nat} {ops : Array Oper} {A : List (Nat × Nat × Nat)} {m : List Nat}

end
section
variable {C : Ctx} {K R : St → Prop} {E : Nat → St → Prop} {σ : St}
end
end Go.Eng

namespace Go.Eng
open Go.RowKit


def runL (P : Program) (Γ : FuncId → List D → RV) (Δ : FuncId → List AV → Hp → Option (List PX × RV)) (n : Nat) (L : List Oper) (fz : List Nat) : List Oper → Option Rn → Option Rn
  | _, none => none
  | [], some _ => none
  | [o], some r => stepX P Γ Δ n L fz o r
  | o :: o' :: os, some r => runL P Γ Δ n L fz (o' :: os) (stepQ P Γ L fz o r)

def chkL (n : Nat) (ops : Array Oper) (m : List Nat) : Bool :=
  chkD n ops m && (List.range (ops.size - 1)).all fun j => (m.getD (ops.size - 1) 0).testBit j

section
variable {C : Ctx} {Γ : FuncId → List D → RV} {Δ : FuncId → List AV → Hp → Option (List PX × RV)} {fz : List Nat} {ops : Array Oper} {m : List Nat}

end
end Go.Eng

set_option linter.unusedSimpArgs false
set_option linter.unusedVariables false
namespace Go.Eng
open Go.RowKit

structure ZC where
  as : List AV
  h0 : Hp
  pins : List Nat
  news : List Nat
  β : Type
  q : β → Prop
  r : β → AV
  h1 : β → Hp

def X0 (h0 : Hp) (ι : Nat → Option (Nat × Nat)) (b : Nat) : Prop := ∃ nm x c, geth h0 nm = some (true, x) ∧ ι nm = some (b, c)
def Inj (h : Hp) (ι : Nat → Option (Nat × Nat)) : Prop := ∀ nm nm' x x' b c c', geth h nm = some (true, x) → geth h nm' = some (true, x') → nm ≠ nm' → ι nm = some (b, c) → ι nm' ≠ some (b, c')
def FZ (w : World) (X G : Nat → Prop) (b : Nat) : Prop := G b ∧ b < w.heap.size ∧ ¬ X b

def FnZ (P : Program) (f : FuncId) (Z : ZC) : Prop :=
  ∀ (w : World) (vs : Array Value) (ι : Nat → Option (Nat × Nat)) (G : Nat → Prop),
    (∀ nm x, geth Z.h0 nm = some (true, x) → EntOk (· < w.heap.size) (okOf (FZ w (X0 Z.h0 ι) G) Z.h0 ι w) ι w nm x) → Inj Z.h0 ι →
    RepAs (okOf (FZ w (X0 Z.h0 ι) G) Z.h0 ι w) ι w false Z.as vs.toList →
    Calls P f vs w fun e w' => ∃ v y ι', e = .returned v ∧ Z.q y ∧ (w'.os = w.os ∧ w'.tape = w.tape ∧ w'.output = w.output ∧ w.heap.size ≤ w'.heap.size) ∧
      (∀ b, b < w.heap.size → ¬ X0 Z.h0 ι b → w'.heap[b]? = w.heap[b]?) ∧ (∀ nm ∈ Z.pins, ι' nm = ι nm) ∧
      (∀ nm x, geth (Z.h1 y) nm = some (true, x) → EntOk (fun b => w.heap.size ≤ b ∨ X0 Z.h0 ι b) (okOf (FZ w (X0 Z.h0 ι) G) (Z.h1 y) ι' w') ι' w' nm x) ∧ Inj (Z.h1 y) ι' ∧
      RepA (okOf (FZ w (X0 Z.h0 ι) G) (Z.h1 y) ι' w') ι' w' (Z.r y) v

def pinA (pins : List Nat) (u : Value) : AV → AV
  | .vw nm o m n => bif pins.contains nm then .pin u (.vw nm o m n) else .vw nm o m n
  | .pt nm o => bif pins.contains nm then .pin u (.pt nm o) else .pt nm o
  | a => a
def pinZ (pins : List Nat) (u : Nat → Value) (i : Nat) : List AV → List (Nat × AV)
  | [] => []
  | a :: l => (i, pinA pins (u i) a) :: pinZ pins u (i + 1) l
def isBx : Option (Bool × Ent) → Prop
  | some (g, .box _ _) => g = true
  | _ => False
def pinOk (u : Nat → Value) (σ : St) (ρ : List (Nat × Option Nat)) (h0 : Hp) (nm : Nat) (i : Nat) : List AV → Prop
  | [] => False
  | .vw k o m n :: l => bif k == nm then isPin (u i) (.vw k o m n) (get σ.e i) ∧ lk ρ nm = some nm else pinOk u σ ρ h0 nm (i + 1) l
  | .pt k o :: l => bif k == nm then isPin (u i) (.pt k o) (get σ.e i) ∧ lk ρ nm = some nm ∧ isBx (geth h0 nm) ∧ isBx (geth σ.h nm) else pinOk u σ ρ h0 nm (i + 1) l
  | _ :: l => pinOk u σ ρ h0 nm (i + 1) l
def pinsOk (u : Nat → Value) (σ : St) (ρ : List (Nat × Option Nat)) (h0 : Hp) (as : List AV) : List Nat → Prop
  | [] => True
  | nm :: l => pinOk u σ ρ h0 nm 0 as ∧ pinsOk u σ ρ h0 as l
def oneA : List AV → AV
  | [x] => x
  | l => .tup l
def EndZ (P : Program) (rv : List ResultVar) (pins : List Nat) (as : List AV) (h0 : Hp) (u : Nat → Value) (r : AV) (h1 : Hp) (ρ : List (Nat × Option Nat)) (σ : St) : Prop :=
  match resA P σ rv with
  | none => False
  | some (xs, p) => p ∧ noDup (imgs ρ h1) = true ∧ leHp ρ σ.h (imgs ρ h1) h1 ∧ leA ρ σ.h (imgs ρ h1) (oneA xs) r ∧ pinsOk u σ ρ h0 as pins
def RetZ (P : Program) (rv : List ResultVar) (Z : ZC) (u : Nat → Value) (σ : St) : Prop := ∃ (y : Z.β) (ρ : List (Nat × Option Nat)), Z.q y ∧ EndZ P rv Z.pins Z.as Z.h0 u (Z.r y) (Z.h1 y) ρ σ

section
variable {ok : Nat → Prop} {ι : Nat → Option (Nat × Nat)} {w : World}
theorem pinA_rep {pins : List Nat} {a : AV} {v : Value} (h : RepA ok ι w a v) : RepA ok ι w (pinA pins v a) v := by
  unfold pinA
  split
  · cases pins.contains _ <;> simp only [cond_true, cond_false]
    · exact h
    · simp only [RepA] at h ⊢; exact ⟨trivial, h⟩
  · cases pins.contains _ <;> simp only [cond_true, cond_false]
    · exact h
    · simp only [RepA] at h ⊢; exact ⟨trivial, h⟩
  · exact h
theorem pinZ_rep {pins : List Nat} {u : Nat → Value} : ∀ {l : List AV} {i : Nat} {vs : List Value}, RepAs ok ι w false l vs → (∀ j v, vs[j]? = some v → u (i + j) = v) →
    ∀ s, RepA ok ι w (get (pinZ pins u i l) s) (u s)
  | [], i, vs, h, hu, s => by simp only [pinZ, get, RepA]
  | a :: l, i, vs, h, hu, s => by
    simp only [RepAs] at h
    obtain ⟨v, vs', rfl, h1, _, h⟩ := h
    have ih := pinZ_rep (pins := pins) h (u := u) (i := i + 1) (fun j v hv => by have := hu (j + 1) v (by simpa using hv); rw [← this]; congr 1; omega) s
    have hv : u i = v := hu 0 v (by simp)
    simp only [pinZ, get]
    cases hs : i == s
    · simpa only [cond_false] using ih
    · simp only [cond_true]
      have : i = s := by simpa using hs
      subst this
      rw [hv]; exact pinA_rep h1
theorem pinOk_eq {C : Ctx} {σ : St} {ιe ι0 : Nat → Option (Nat × Nat)} {a : Act} {w' w0 : World} {ok0 : Nat → Prop} {u : Nat → Value} {ρ : List (Nat × Option Nat)} {h0 : Hp} {nm : Nat} (S : SimI C σ ιe a w')
    (hz : ∀ T c b cap, geth h0 nm = some (true, .box T c) → ι0 nm = some (b, cap) → cap = 0) :
    ∀ {l : List AV} {i : Nat} {vs : List Value}, RepAs ok0 ι0 w0 false l vs → (∀ j v, vs[j]? = some v → u (i + j) = v) → pinOk u σ ρ h0 nm i l → lk ρ nm = some nm ∧ ιe nm = ι0 nm
  | [], i, vs, h, hu, hp => by simp only [pinOk] at hp
  | A :: l, i, vs, h, hu, hp => by
    simp only [RepAs] at h
    obtain ⟨v, vs', rfl, h1, _, h⟩ := h
    have hv : u i = v := hu 0 v (by simp)
    have hu' : ∀ j v, vs'[j]? = some v → u (i + 1 + j) = v := fun j v hv => by have := hu (j + 1) v (by simpa using hv); rw [← this]; congr 1; omega
    unfold pinOk at hp
    split at hp
    · rename_i e; cases e
    · rename_i k o m n l' e
      simp only [List.cons.injEq] at e
      obtain ⟨rfl, rfl⟩ := e
      cases hk : k == nm
      · rw [hk, cond_false] at hp; exact pinOk_eq S hz h hu' hp
      · rw [hk, cond_true] at hp
        simp only [beq_iff_eq] at hk; subst hk
        refine ⟨hp.2, ?_⟩
        cases hg : get σ.e i with
        | pin u' B =>
          rw [hg] at hp
          simp only [isPin] at hp
          obtain ⟨⟨rfl, rfl⟩, _⟩ := hp
          have he := S.env i
          rw [hg] at he
          simp only [RepA] at he h1
          obtain ⟨he, hr⟩ := he
          rw [he, hv] at hr
          rcases hr with ⟨e1, e2, _⟩ | ⟨b, c, e1, e2, e3⟩
          · rcases h1 with ⟨f1, f2, _⟩ | ⟨b', c', f1, f2, f3⟩
            · rw [e1, f1]
            · rw [e2] at f2; simp at f2
          · rcases h1 with ⟨f1, f2, _⟩ | ⟨b', c', f1, f2, f3⟩
            · rw [e2] at f2; simp at f2
            · rw [e2] at f2
              simp only [Value.slice.injEq, Option.some.injEq, Addr.mk.injEq] at f2
              rw [e1, f1]
              congr 2
              · exact f2.1.1
              · omega
        | _ => rw [hg] at hp; exact hp.1.elim
    · rename_i k o l' e
      simp only [List.cons.injEq] at e
      obtain ⟨rfl, rfl⟩ := e
      cases hk : k == nm
      · rw [hk, cond_false] at hp; exact pinOk_eq S hz h hu' hp
      · rw [hk, cond_true] at hp
        simp only [beq_iff_eq] at hk; subst hk
        refine ⟨hp.2.1, ?_⟩
        cases hg : get σ.e i with
        | pin u' B =>
          rw [hg] at hp
          simp only [isPin] at hp
          obtain ⟨⟨rfl, rfl⟩, _, hb0, hb1⟩ := hp
          have he := S.env i
          rw [hg] at he
          simp only [RepA] at he h1
          obtain ⟨he, hr⟩ := he
          rw [he, hv] at hr
          obtain ⟨b, c, e1, e2⟩ := hr
          obtain ⟨b', c', f1, f2⟩ := h1
          rw [e2] at f2
          simp only [Value.pointer.injEq, Option.some.injEq, Addr.mk.injEq] at f2
          have c0 : c = 0 := by
            unfold isBx at hb1
            split at hb1
            · rename_i g T cc hgg
              subst hb1
              obtain ⟨b2, cap, cur, k1, k2, _⟩ := S.ent k _ hgg
              rw [e1] at k1; simp only [Option.some.injEq, Prod.mk.injEq] at k1
              rw [k1.2]; exact k2.2
            · exact hb1.elim
          have c0' : c' = 0 := by
            unfold isBx at hb0
            split at hb0
            · rename_i g T cc hgg
              subst hb0
              exact hz T cc b' c' hgg f1
            · exact hb0.elim
          rw [e1, f1, c0, c0', f2.1]
        | _ => rw [hg] at hp; exact hp.1.elim
    · rename_i A' l' _ _ e
      simp only [List.cons.injEq] at e
      obtain ⟨rfl, rfl⟩ := e
      exact pinOk_eq S hz h hu' hp
theorem pinsOk_mem {u : Nat → Value} {σ : St} {ρ : List (Nat × Option Nat)} {h0 : Hp} {as : List AV} : ∀ {l : List Nat}, pinsOk u σ ρ h0 as l → ∀ nm ∈ l, pinOk u σ ρ h0 nm 0 as
  | [], _, nm, hm => by simp at hm
  | k :: l, h, nm, hm => by
    simp only [pinsOk] at h
    simp only [List.mem_cons] at hm
    rcases hm with rfl | hm
    · exact h.1
    · exact pinsOk_mem h.2 nm hm
end

theorem FnZ.of {P : Program} {f : FuncId} {fn : Func} {c : Code} {Z : ZC} (hf : P.funcs[f]? = some fn) (hb : fn.body = some c) (hl : Z.as.length ≤ fn.ntmps)
    (h : ∀ w0 X G u, WA ⟨P, w0, X, fn.ntmps, G⟩ c (RetZ P fn.results.toList Z u) (RetZ P fn.results.toList Z u) (fun _ _ => False) ⟨pinZ Z.pins u 0 Z.as, Z.h0⟩) : FnZ P f Z := by
  intro w vs ι G hent hinj hargs
  have hlen := RepAs_length hargs
  simp only [Array.length_toList] at hlen
  let X : Nat → Prop := X0 Z.h0 ι
  let u : Nat → Value := fun s => (vs ++ Array.replicate (fn.ntmps - vs.size) undef).getD s undef
  have hu : ∀ j v, vs.toList[j]? = some v → u (0 + j) = v := by
    intro j v hv
    have hs : j < vs.size := by
      have := (List.getElem?_eq_some_iff.1 hv).1
      simpa using this
    simp only [Array.getElem?_toList] at hv
    simp [u, Array.getD_eq_getD_getElem?, Array.getElem?_append_left hs, hv]
  have S0 : SimI ⟨P, w, X, fn.ntmps, G⟩ ⟨pinZ Z.pins u 0 Z.as, Z.h0⟩ ι { tmps := vs ++ Array.replicate (fn.ntmps - vs.size) undef, defers := [] } w := by
    refine ⟨fun s => pinZ_rep hargs hu s, fun nm x hx => ?_, hinj, rfl, rfl, rfl, Nat.le_refl _, fun _ _ _ => rfl, rfl, by simp; omega⟩
    have E := hent nm x hx
    cases x with
    | box T c =>
      obtain ⟨b, cap, cur, h1, h2, h3, h4⟩ := E
      exact ⟨b, cap, cur, h1, ⟨.inr ⟨nm, _, cap, hx, h1⟩, h2.2⟩, h3, h4⟩
    | arr T n l =>
      rcases E with ⟨h1, h2⟩ | ⟨b, cap, cur, h1, h2, h3, h4, h5, h6, h7⟩
      · exact .inl ⟨h1, h2⟩
      · exact .inr ⟨b, cap, cur, h1, .inr ⟨nm, _, cap, hx, h1⟩, h3, h4, h5, h6, h7⟩
    | mp n l =>
      obtain ⟨b, es, c, h1, h2, h3, h4⟩ := E
      exact ⟨b, es, c, h1, .inr ⟨nm, _, 0, hx, h1⟩, h3, h4⟩
    | it n l cur =>
      obtain ⟨b, m, es, c, sn, h1, h2, h3, h4⟩ := E
      exact ⟨b, m, es, c, sn, h1, .inr ⟨nm, _, 0, hx, h1⟩, h3, h4⟩
  refine calls_of_wp hf hb (wp_mono ((h w X G u).app _ w ⟨_, S0⟩) fun e a w' hq => ?_)
  have key : ∀ σ, RetZ P fn.results.toList Z u σ → Sim ⟨P, w, X, fn.ntmps, G⟩ σ a w' → a.defers = [] ∧ ∃ v, (results fn a.tmps).run P w' = .ok v w' ∧ ∃ v' y ι', Ending.returned v = .returned v' ∧ Z.q y ∧ (w'.os = w.os ∧ w'.tape = w.tape ∧ w'.output = w.output ∧ w.heap.size ≤ w'.heap.size) ∧
      (∀ b, b < w.heap.size → ¬ X0 Z.h0 ι b → w'.heap[b]? = w.heap[b]?) ∧ (∀ nm ∈ Z.pins, ι' nm = ι nm) ∧
      (∀ nm x, geth (Z.h1 y) nm = some (true, x) → EntOk (fun b => w.heap.size ≤ b ∨ X0 Z.h0 ι b) (okOf (FZ w (X0 Z.h0 ι) G) (Z.h1 y) ι' w') ι' w' nm x) ∧ Inj (Z.h1 y) ι' ∧
      RepA (okOf (FZ w (X0 Z.h0 ι) G) (Z.h1 y) ι' w') ι' w' (Z.r y) v' := by
    intro σ ⟨y, ρ, hq, hend⟩ S
    obtain ⟨ιe, S⟩ := S
    refine ⟨S.def0, ?_⟩
    unfold EndZ at hend
    split at hend
    · exact hend.elim
    · rename_i xs p hxs
      obtain ⟨hp, hnd, hle, hleA, hpins⟩ := hend
      obtain ⟨vals, hv1, hv2⟩ := resA_rep S fn.results.toList xs p hxs hp
      have hv1' : (fn.results.toList.mapM fun (x : ResultVar) => (match x with | .tmp t => pure (a.tmps.getD t undef) | .cell t T => do loadVar T (← asAddr (a.tmps.getD t undef)) : Sem Value)).run P w' = .ok vals w' := hv1
      have hres : (results fn a.tmps).run P w' = .ok (if h : vals.toArray.size = 1 then vals.toArray[0] else .tuple vals.toArray) w' := by
        unfold results
        simp only [Array.mapM_eq_mapM_toList, Sem.run_bind]
        have h2 : (do let r ← fn.results.toList.mapM fun (x : ResultVar) => (match x with | .tmp t => pure (a.tmps.getD t undef) | .cell t T => do loadVar T (← asAddr (a.tmps.getD t undef)) : Sem Value); pure r.toArray : Sem (Array Value)).run P w' = .ok vals.toArray w' := by
          simp only [Sem.run_bind, hv1', Result.andThen_ok, Sem.run_pure]
        have h3 : (List.toArray <$> fn.results.toList.mapM fun (x : ResultVar) => (match x with | .tmp t => pure (a.tmps.getD t undef) | .cell t T => do loadVar T (← asAddr (a.tmps.getD t undef)) : Sem Value)).run P w' = .ok vals.toArray w' := h2
        refine (congrArg (fun r => Result.andThen r _) h3).trans ?_
        simp only [Result.andThen_ok, Sem.run_pure]
      have hs : Sub ρ σ ⟨[], Z.h1 y⟩ := ⟨hnd, hle, trivial⟩
      have S' := Sub.simI S hs
      have hone : ∃ v, (results fn a.tmps).run P w' = .ok v w' ∧ RepA (okOf (Ctx.F ⟨P, w, X, fn.ntmps, G⟩) σ.h ιe w') ιe w' (oneA xs) v := by
        unfold oneA
        split
        · simp only [RepAs] at hv2
          obtain ⟨v, vs', rfl, hx, _, rfl⟩ := hv2
          exact ⟨v, by rw [hres]; simp, hx⟩
        · rename_i hne
          have hlv := RepAs_length hv2
          have hn1 : ¬ vals.length = 1 := by
            intro h1
            rw [hlv] at h1
            obtain ⟨x, hx⟩ := List.length_eq_one_iff.1 h1
            exact hne x hx
          exact ⟨.tuple vals.toArray, by rw [hres]; simp [hn1], by simp only [RepA]; exact ⟨vals, rfl, hv2⟩⟩
      obtain ⟨v, hrun, hrep⟩ := hone
      refine ⟨v, hrun, v, y, mv ρ ιe, rfl, hq, ⟨S.os, S.tape, S.output, S.size⟩, S.old, fun nm hm => ?_, S'.ent, S'.inj, leA_rep S hs _ _ _ hleA hrep⟩
      have hk := pinOk_eq (ι0 := ι) S (fun T c b cap hg hi => by
        obtain ⟨b', cap', cur, k1, k2, _⟩ := hent nm _ hg
        rw [hi] at k1; simp only [Option.some.injEq, Prod.mk.injEq] at k1
        rw [k1.2]; exact k2.2) hargs hu (pinsOk_mem hpins nm hm)
      unfold mv
      rw [hk.1]; exact hk.2
  cases e with
  | normal => obtain ⟨σ, h1, h2⟩ := hq; exact key σ h1 h2
  | ret => obtain ⟨σ, h1, h2⟩ := hq; exact key σ h1 h2
  | exit i => obtain ⟨σ, h1, h2⟩ := hq; exact h1.elim
  | goto l => exact hq.elim
  | panic ch => exact hq.elim
  | outgrown => exact hq.elim
theorem FnZ.by {P : Program} {f : FuncId} {fn : Func} {Z : ZC} (n : Nat) (rv : List ResultVar) (hf : P.funcs[f]? = some fn) (hb : fn.body = some (fcd fn [])) (hn : fn.ntmps = n) (hrv : fn.results.toList = rv) (hl : Z.as.length ≤ n)
    (h : ∀ w0 X G u, WA ⟨P, w0, X, n, G⟩ (fcd fn []) (RetZ P rv Z u) (RetZ P rv Z u) (fun _ _ => False) ⟨pinZ Z.pins u 0 Z.as, Z.h0⟩) : FnZ P f Z := by
  subst hn hrv
  exact FnZ.of hf hb hl h
end Go.Eng

