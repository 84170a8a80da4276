import Derived.Test.YtfpimhkkknfmcaaEngN
namespace Go.Eng
open Go.RowKit

section
variable {C : Ctx} {σ : St} {g : Bool} {ι : Nat → Option (Nat × Nat)} {a : Act} {w : World}

theorem vLoad_rep {T : Nat} {x : AV} {vx : Value} {out : Out} (h : vLoad C.P T g σ.h x = some out) (S : SimI C σ ι a w) (hg : g = true) (hs : out.side) (hr : RepA (okOf σ.h ι w) ι w x vx) :
    ∃ p v, vx = .pointer (some p) ∧ (loadVar T p).run C.P w = .ok v w ∧ RepA (okOf σ.h ι w) ι w out.av v := by
  unfold vLoad at h
  split at h
  · cases h
  · rename_i sz ag ht
    split at h
    · rename_i nm off hx
      split at h
      · rename_i g' T' c hh
        split at h
        · rename_i r hrd
          simp only [Option.some.injEq] at h; subst h
          have ex := sp_rep hg hs.1 hr
          rw [hx] at ex
          simp only [RepA] at ex
          obtain ⟨b, cc, hi, ex⟩ := ex
          obtain ⟨b', cap, cur, h1, h2, h3, h4⟩ := S.box hh (hs.2 hg)
          rw [hi] at h1; simp only [Option.some.injEq, Prod.mk.injEq] at h1
          obtain ⟨rfl, rfl⟩ := h1
          obtain ⟨v, hv, hrep⟩ := rdA_load (b := b) (o := off) ht (RepAs_drop off h4) (cellsAt_block h3) hrd
          exact ⟨_, v, ex, hv, hrep⟩
        · cases h
      · cases h
    · rename_i l hx
      split at h
      · rename_i r hrd
        simp only [Option.some.injEq] at h; subst h
        have ex := sp_rep hg hs hr
        rw [hx] at ex
        simp only [RepA] at ex
        obtain ⟨b, off, vs, ex, hb, hrs, hc⟩ := ex
        obtain ⟨v, hv, hrep⟩ := rdD_load (ι := ι) ht hrs hc hrd
        exact ⟨_, v, ex, hv, hrep⟩
      · cases h
    · rename_i nm k f n hx
      split at h
      · rename_i g' T' n' l hh
        split at h
        · rename_i r hrd
          cases hn : n == n'
          · simp [hn] at h
          · simp only [hn, cond_true, Option.some.injEq] at h; subst h
            simp only [beq_iff_eq] at hn; subst hn
            obtain ⟨p1, p2, hk⟩ := hs
            have ex := sp_rep hg p1 hr
            rw [hx] at ex
            simp only [RepA] at ex
            obtain ⟨b, cc, hi, ex⟩ := ex
            obtain ⟨b', cap, cur, h1, h2, h3, h4, h5, h6, h7⟩ := S.arr hh (p2 hg) (by omega)
            rw [hi] at h1; simp only [Option.some.injEq, Prod.mk.injEq] at h1
            obtain ⟨rfl, rfl⟩ := h1
            obtain ⟨q1, q2⟩ := RepDss_at k h7 (elt_some (P := C.P) (T := T') hk)
            have hc : cellsAt w b (k * n) (((cur.toList.take (l.length * n)).drop (k * n)).take n) := by
              have := cellsAt_take (k := n) (cellsAt_drop (k := k * n) (cellsAt_take (k := l.length * n) (by simpa using cellsAt_block (o := 0) h3)))
              simpa using this
            obtain ⟨v, hv, hrep⟩ := rdD_load (ι := ι) ht (RepDs_drop f q1) (cellsAt_drop (k := f) hc) hrd
            exact ⟨_, v, ex, hv, hrep⟩
        · cases h
      · cases h
    · cases h

theorem resA_rep (S : SimI C σ ι a w) : ∀ (l : List ResultVar) (as : List AV) (p : Prop), resA C.P σ l = some (as, p) → p →
    ∃ vs, (l.mapM fun (x : ResultVar) => (match x with | .tmp t => pure (a.tmps.getD t undef) | .cell t T => do loadVar T (← asAddr (a.tmps.getD t undef)) : Sem Value)).run C.P w = .ok vs w ∧ RepAs (okOf σ.h ι w) ι w false as vs
  | [], as, p, h, hp => by
    simp only [resA, Option.some.injEq, Prod.mk.injEq] at h
    obtain ⟨rfl, _⟩ := h
    exact ⟨[], by simp, by simp [RepAs]⟩
  | .tmp t :: l, as, p, h, hp => by
    simp only [resA] at h
    split at h
    · rename_i as' p' h1
      simp only [Option.some.injEq, Prod.mk.injEq] at h
      obtain ⟨rfl, rfl⟩ := h
      obtain ⟨vs, h2, h3⟩ := resA_rep S l as' p' h1 hp
      refine ⟨a.tmps.getD t undef :: vs, ?_, ?_⟩
      · simp only [List.mapM_cons, Sem.run_bind, Sem.run_pure, Result.andThen_ok, h2]
      · simp only [RepAs]
        exact ⟨_, vs, rfl, S.env t, (fun h => by cases h), h3⟩
    · cases h
  | .cell t T :: l, as, p, h, hp => by
    simp only [resA] at h
    split at h
    · rename_i out as' p' h0 h1
      simp only [Option.some.injEq, Prod.mk.injEq] at h
      obtain ⟨rfl, rfl⟩ := h
      obtain ⟨vs, h2, h3⟩ := resA_rep S l as' p' h1 hp.2
      obtain ⟨q, v, e1, e2, e3⟩ := vLoad_rep h0 S rfl hp.1 (S.env t)
      refine ⟨v :: vs, ?_, ?_⟩
      · have ha : (asAddr (a.tmps.getD t undef)).run C.P w = .ok q w := by rw [e1]; rfl
        simp only [List.mapM_cons, Sem.run_bind, ha, Sem.run_pure, Result.andThen_ok, e2, h2]
      · simp only [RepAs]
        exact ⟨_, vs, rfl, e3, (fun h => by cases h), h3⟩
    · cases h

theorem blocks_mem {b : Nat} {n : List Nat} (h : b ∈ blocks ι n) : ∃ k ∈ n, ∃ c, ι k = some (b, c) := by
  simp only [blocks, List.mem_filterMap, Option.map_eq_some_iff] at h
  obtain ⟨k, hk, ⟨b', c⟩, h1, rfl⟩ := h
  exact ⟨k, hk, c, h1⟩

theorem blocks_nodup (S : SimI C σ ι a w) : ∀ {n : List Nat}, n.Nodup → (∀ k ∈ n, ∃ y, geth σ.h k = some (true, y)) → (blocks ι n).Nodup
  | [], _, _ => by simp [blocks]
  | k :: n, hn, hl => by
    simp only [List.nodup_cons] at hn
    have ih := blocks_nodup S hn.2 (fun j hj => hl j (by simp [hj]))
    cases hk : ι k with
    | none =>
      have : blocks ι (k :: n) = blocks ι n := by simp [blocks, hk]
      rw [this]; exact ih
    | some p =>
      obtain ⟨b, c⟩ := p
      have : blocks ι (k :: n) = b :: blocks ι n := by simp [blocks, hk]
      rw [this, List.nodup_cons]
      refine ⟨fun hb => ?_, ih⟩
      obtain ⟨j, hj, c', hjc⟩ := blocks_mem hb
      obtain ⟨y, hy⟩ := hl k (by simp)
      obtain ⟨y', hy'⟩ := hl j (by simp [hj])
      exact S.inj k j y y' b c c' hy hy' (fun e => hn.1 (e ▸ hj)) hk hjc

theorem own_of_live (S : SimI C σ ι a w) {k b c : Nat} {y : Ent} (hy : geth σ.h k = some (true, y)) (hi : ι k = some (b, c)) : C.own b := by
  have h := S.ent k y hy
  cases y with
  | box T l => obtain ⟨b', cap, cur, h1, h2, _⟩ := h; rw [hi] at h1; simp at h1; exact h1.1 ▸ h2
  | arr T n l =>
    rcases h with ⟨h1, _⟩ | ⟨b', cap, cur, h1, h2, _⟩
    · rw [hi] at h1; cases h1
    · rw [hi] at h1; simp at h1; exact h1.1 ▸ h2
end

theorem get_parA : ∀ (ds : List D) (k s : Nat), get ((ds.zipIdx k).map fun p => (p.2, AV.dat p.1)) s = (if k ≤ s then (match ds[s - k]? with | some d => .dat d | none => .un) else .un)
  | [], k, s => by simp [get]
  | d :: ds, k, s => by
    simp only [List.zipIdx_cons, List.map_cons, get]
    by_cases h : k = s
    · subst h; simp
    · have : (k == s) = false := by simpa using h
      rw [this, cond_false, get_parA ds (k + 1) s]
      by_cases hk : k ≤ s
      · have h1 : k + 1 ≤ s := by omega
        have h2 : s - k = (s - (k + 1)) + 1 := by omega
        simp [hk, h1, h2]
      · have h1 : ¬ k + 1 ≤ s := by omega
        simp [hk, h1]

theorem RepL_length {ok : Nat → Prop} {w : World} : ∀ {l : List D} {vs : List Value}, RepL ok w l vs → vs.length = l.length
  | [], vs, h => by simp only [RepL] at h; simp [h]
  | d :: l, vs, h => by
    simp only [RepL] at h
    obtain ⟨v, vs', rfl, _, h⟩ := h
    simp [RepL_length h]

theorem RepL_get {ok : Nat → Prop} {w : World} : ∀ {l : List D} {vs : List Value} (k : Nat) {d : D}, RepL ok w l vs → l[k]? = some d → ∃ v, vs[k]? = some v ∧ RepD ok w d v
  | [], vs, k, d, h, e => by simp at e
  | d0 :: l, vs, 0, d, h, e => by
    simp only [RepL] at h
    obtain ⟨v, vs', rfl, h1, h⟩ := h
    simp at e; subst e
    exact ⟨v, by simp, h1⟩
  | d0 :: l, vs, k + 1, d, h, e => by
    simp only [RepL] at h
    obtain ⟨v, vs', rfl, h1, h⟩ := h
    simpa using RepL_get k h (by simpa using e)

/-- A function by its body. -/
theorem Fn.of {P : Program} {f : FuncId} {fn : Func} {c : Code} {ds : List D} {r : RV} (hf : P.funcs[f]? = some fn) (hb : fn.body = some c) (hl : ds.length ≤ fn.ntmps)
    (h : ∀ w0, WA ⟨P, w0, fun _ => False, fn.ntmps⟩ c (Ret P fn.results.toList r) (Ret P fn.results.toList r) (fun _ _ => False) ⟨parA ds, []⟩) : Fn P f ds r := by
  intro w vs hargs
  have hlen := RepL_length hargs
  simp only [Array.length_toList] at hlen
  have S0 : SimI ⟨P, w, fun _ => False, fn.ntmps⟩ ⟨parA ds, []⟩ (fun _ => none) { tmps := vs ++ Array.replicate (fn.ntmps - vs.size) undef, defers := [] } w := by
    refine ⟨fun s => ?_, fun nm x hx => by simp [geth] at hx, fun nm nm' x x' b c c' hx => by simp [geth] at hx, rfl, rfl, rfl, Nat.le_refl _, fun _ _ _ => rfl, rfl, by simp; omega⟩
    have hg := get_parA ds 0 s
    simp only [parA]
    rw [hg]
    simp only [Nat.zero_le, if_true, Nat.sub_zero]
    split
    · rename_i d hd
      obtain ⟨v, hv, hr⟩ := RepL_get s hargs hd
      have hs : s < vs.size := by
        have := (List.getElem?_eq_some_iff.1 hv).1
        simpa using this
      have : (vs ++ Array.replicate (fn.ntmps - vs.size) undef).getD s undef = v := by
        simp only [Array.getElem?_toList] at hv
        simp [Array.getD_eq_getD_getElem?, Array.getElem?_append_left hs, hv]
      simp only [this, RepA]
      exact RepD.tr (fun b hb => ⟨hb, fun nm x c hx => by simp [geth] at hx⟩) (fun _ _ => rfl) _ _ hr
    · simp only [RepA]
  refine calls_of_wp hf hb (wp_mono ((h w).app _ w ⟨_, S0⟩) fun e a w' hq => ?_)
  have key : ∀ σ, Ret P fn.results.toList r σ → Sim ⟨P, w, fun _ => False, fn.ntmps⟩ σ a w' → a.defers = [] ∧ ∃ v, (results fn a.tmps).run P w' = .ok v w' ∧ ∃ v' bs, Ending.returned v = .returned v' ∧ Below w.heap.size w w' ∧ bs.Nodup ∧ (∀ b ∈ bs, w.heap.size ≤ b) ∧ RepR (fun _ => True) w' r v' bs := by
    intro σ hret S
    obtain ⟨ι, S⟩ := S
    refine ⟨S.def0, ?_⟩
    unfold Ret at hret
    split at hret
    · exact hret.elim
    · rename_i as p has
      obtain ⟨hp, hret⟩ := hret
      obtain ⟨vals, hv1, hv2⟩ := resA_rep S fn.results.toList as p has hp
      have hres : (results fn a.tmps).run P w' = .ok (if h : vals.toArray.size = 1 then vals.toArray[0] else .tuple vals.toArray) w' := by
        unfold results
        simp only [Array.mapM_eq_mapM_toList, Sem.run_bind]
        have := congrArg (fun r => Result.andThen r fun (x : List Value) w => Result.ok x.toArray w) hv1
        have h2 : (do let r ← fn.results.toList.mapM fun (x : ResultVar) => (match x with | .tmp t => pure (a.tmps.getD t undef) | .cell t T => do loadVar T (← asAddr (a.tmps.getD t undef)) : Sem Value); pure r.toArray : Sem (Array Value)).run P w' = .ok vals.toArray w' := by
          simp only [Sem.run_bind, hv1, Result.andThen_ok, Sem.run_pure]
        have h3 : (List.toArray <$> fn.results.toList.mapM fun (x : ResultVar) => (match x with | .tmp t => pure (a.tmps.getD t undef) | .cell t T => do loadVar T (← asAddr (a.tmps.getD t undef)) : Sem Value)).run P w' = .ok vals.toArray w' := h2
        refine (congrArg (fun r => Result.andThen r _) h3).trans ?_
        simp only [Result.andThen_ok, Sem.run_pure]
      have hbel : Below w.heap.size w w' := ⟨S.os, S.tape, S.output, S.size, fun k hk => S.old k hk (fun h => h)⟩
      have fin1 : ∀ (v : Value) (n : List Nat), RepR (fun _ => True) w' r v (blocks ι n) → n.Nodup → (∀ k ∈ n, ∃ y, geth σ.h k = some (true, y)) → (results fn a.tmps).run P w' = .ok v w' →
          ∃ v, (results fn a.tmps).run P w' = .ok v w' ∧ ∃ v' bs, Ending.returned v = .returned v' ∧ Below w.heap.size w w' ∧ bs.Nodup ∧ (∀ b ∈ bs, w.heap.size ≤ b) ∧ RepR (fun _ => True) w' r v' bs := by
        intro v n hrep hnd hlive hrun
        refine ⟨v, hrun, v, blocks ι n, rfl, hbel, blocks_nodup S hnd hlive, fun b hb => ?_, hrep⟩
        obtain ⟨k, hk, c', hkc⟩ := blocks_mem hb
        obtain ⟨y, hy⟩ := hlive k hk
        rcases own_of_live S hy hkc with h | h
        · exact h
        · exact h.elim
      split at hret
      · rename_i x
        split at hret
        · rename_i n q hra
          simp only [RepAs] at hv2
          obtain ⟨v, vs', rfl, hx, _, rfl⟩ := hv2
          obtain ⟨h1, h2⟩ := retA_rep S x r v n q hx hra hret.2
          exact fin1 v n h1 hret.1 h2 (by rw [hres]; simp)
        · exact hret.elim
      · rename_i r' rs hne
        split at hret
        · rename_i n q hra
          obtain ⟨h1, h2⟩ := retAs_rep S false as rs vals n q hv2 hra hret.2
          have hlv := RepAs_length hv2
          have hn1 : ¬ vals.length = 1 := by
            intro h1
            rw [hlv] at h1
            obtain ⟨x, hx⟩ := List.length_eq_one_iff.1 h1
            exact hne x hx
          exact fin1 (.tuple vals.toArray) n (by simp only [RepR]; exact ⟨vals, rfl, h1⟩) hret.1 h2 (by rw [hres]; simp [hn1])
        · exact hret.elim
      · exact hret.elim
  cases e with
  | normal => obtain ⟨σ, h1, h2⟩ := hq; exact key σ h1 h2
  | ret => obtain ⟨σ, h1, h2⟩ := hq; exact key σ h1 h2
  | exit i => obtain ⟨σ, h1, h2⟩ := hq; exact h1.elim
  | goto l => exact hq.elim
  | panic ch => exact hq.elim
  | outgrown => exact hq.elim
end Go.Eng
