import Derived.Test.YtfpimhkkknfmcaaEngH
import Derived.Laws.OwnMore
namespace Go.Eng
open Go.RowKit

section
variable {C : Ctx} {σ : St} {o : Oper} {g : Bool}

theorem SimI.hcongr {e : List (Nat × AV)} {h h' : Hp} {ι : Nat → Option (Nat × Nat)} {a : Act} {w : World} (S : SimI C ⟨e, h⟩ ι a w) (hh : ∀ k, geth h' k = geth h k) : SimI C ⟨e, h'⟩ ι a w := by
  have hok : okOf h' ι w = okOf h ι w := by
    funext b; simp only [okOf, hh]
  refine ⟨fun s => ?_, fun nm x hx => ?_, fun nm nm' x x' b c c' h1 h2 => S.inj nm nm' x x' b c c' (by rw [← hh]; exact h1) (by rw [← hh]; exact h2), S.os, S.tape, S.output, S.size, S.old, S.def0, S.tms⟩
  · have := S.env s
    simp only [hok]; exact this
  · have := S.ent nm x (by rw [← hh]; exact hx)
    simp only [hok]; exact this

theorem run_call_builtin {P : Program} {w : World} {ρ : Operand → Value} {b : Builtin} {args : Array Operand} {ts : Array TypeId} (ho : o.op = .call ⟨.builtin b, args, ts⟩) :
    ∃ cs, (execOp ρ o).run P w = (builtin b ts o.type cs (args.map ρ)).run P w := by
  refine ⟨args.map fun | .const _ => true | _ => false, ?_⟩
  simp only [execOp, ho, resolve, Sem.run_bind, Sem.run_pure, Result.andThen_ok, invoke]
  rfl

theorem snd_len {T : Nat} {x : Operand} {out : Out} (ho : o.op = .call ⟨.builtin .len, #[x], #[T]⟩) (h : vLen C.P T g σ.h (opnd σ.e x) = some out) : Snd C o g σ out := by
  unfold vLen at h
  split at h
  · cases h
  · rename_i e he
    have hu := elOf_some he
    have hel : C.P.elem T = e := by simp [Program.elem, hu]
    have key : ∀ (a : Act) (w : World) (b : Option Addr) (n c : Nat), a.eval x = .slice b n c → (execOp a.eval o).run C.P w = .ok (.value (.int .i64 n)) w := by
      intro a w b n c hx
      obtain ⟨cs, hcs⟩ := run_call_builtin (P := C.P) (w := w) (ρ := a.eval) ho
      rw [hcs]
      have := run_len_slice (P := C.P) w T o.type b n c (by rw [hel]; exact hu)
      simp [builtin, hx, this, goInt]
    split at h
    · rename_i nm oo m n hx
      simp only [Option.some.injEq] at h; subst h
      refine Snd.pure fun ι a w S hg hs => ?_
      have ex := S.sopnd hg x hs
      rw [hx] at ex
      simp only [RepA] at ex
      have hk : (match geth σ.h nm with | some (g', .arr ..) => g' = true → m ≤ maxLen | _ => True) := by
        split
        · rename_i g' T' n' l hh
          intro hg'
          subst hg'
          rcases ex with ⟨_, _, _, rfl⟩ | ⟨b, c, hi, _, hle⟩
          · exact Nat.zero_le _
          · rcases S.ent nm _ hh with ⟨h1, _⟩ | ⟨b', cap, cur, h1, _, _, _, _, h6, _⟩
            · rw [hi] at h1; cases h1
            · rw [hi] at h1; simp only [Option.some.injEq, Prod.mk.injEq] at h1
              rw [h1.2] at hle; omega
        · trivial
      rcases ex with ⟨_, ex, _, rfl⟩ | ⟨b, c, hi, ex, hle⟩
      · exact ⟨_, key a w _ _ _ ex, hk, by simp [RepA, RepD]⟩
      · exact ⟨_, key a w _ _ _ ex, hk, by simp [RepA, RepD]⟩
    · rename_i n l hx
      simp only [Option.some.injEq] at h; subst h
      refine Snd.pure fun ι a w S hg hs => ?_
      have ex := S.sopnd hg x hs
      rw [hx] at ex
      simp only [RepA, RepD] at ex
      obtain ⟨hm, ex⟩ := ex
      rcases ex with ⟨rfl, b, cap, ex⟩ | ⟨b, oo, cap, vs, ex, _⟩
      · exact ⟨_, key a w _ _ _ ex, hm, by simp [RepA, RepD]⟩
      · exact ⟨_, key a w _ _ _ ex, hm, by simp [RepA, RepD]⟩
    · rename_i b n c hx
      simp only [Option.some.injEq] at h; subst h
      refine Snd.pure fun ι a w S hg hs => ?_
      have ex := S.sopnd hg x hs
      rw [hx] at ex
      simp only [RepA, RepD] at ex
      exact ⟨_, key a w _ _ _ ex, trivial, by simp [RepA, RepD]⟩
    · cases h

def vMin (g : Bool) (l : List AV) : Option Out :=
  match l with
  | [] => none
  | x :: r => match isI (sp x) with
    | some (.i64, m) => match minL m r with
      | some n => some ⟨.dat (.i n), [], pkl g l, True⟩
      | none => none
    | _ => none
def vMax (g : Bool) (l : List AV) : Option Out :=
  match l with
  | [] => none
  | x :: r => match isI (sp x) with
    | some (.i64, m) => match maxL m r with
      | some n => some ⟨.dat (.i n), [], pkl g l, True⟩
      | none => none
    | _ => none

theorem run_minL {P : Program} {w : World} {ok : Nat → Prop} {ι : Nat → Option (Nat × Nat)} (hg : g = true) : ∀ (l : List AV) (vs : List Value) (m n : Int), vs.length = l.length → (∀ (k : Nat) (x : AV) (v : Value), l[k]? = some x → vs[k]? = some v → RepA ok ι w x v) →
    pkl g l → minL m l = some n → (vs.foldlM Builtin.min2 (.int .i64 m)).run P w = .ok (.int .i64 n) w
  | [], [], m, n, _, _, _, h => by simp [minL] at h; subst h; simp
  | [], _ :: _, m, n, hl, _, _, h => by simp at hl
  | _ :: _, [], m, n, hl, _, _, h => by simp at hl
  | x :: l, v :: vs, m, n, hl, hr, hp, h => by
    simp only [minL] at h
    simp only [pkl] at hp
    split at h
    · rename_i k hk
      have ev := isI_rep (sp_rep hg hp.1 (hr 0 x v rfl rfl)) hk
      subst ev
      have ih := run_minL (P := P) hg l vs (min m k) n (by simpa using hl) (fun j x v h1 h2 => hr (j + 1) x v (by simpa using h1) (by simpa using h2)) hp.2 h
      have e : (if k < m then k else m) = min m k := by omega
      simp only [List.foldlM_cons, Builtin.min2, Sem.run_bind, Sem.run_pure, Result.andThen_ok, e, ih]
    · cases h

theorem run_maxL {P : Program} {w : World} {ok : Nat → Prop} {ι : Nat → Option (Nat × Nat)} (hg : g = true) : ∀ (l : List AV) (vs : List Value) (m n : Int), vs.length = l.length → (∀ (k : Nat) (x : AV) (v : Value), l[k]? = some x → vs[k]? = some v → RepA ok ι w x v) →
    pkl g l → maxL m l = some n → (vs.foldlM Builtin.max2 (.int .i64 m)).run P w = .ok (.int .i64 n) w
  | [], [], m, n, _, _, _, h => by simp [maxL] at h; subst h; simp
  | [], _ :: _, m, n, hl, _, _, h => by simp at hl
  | _ :: _, [], m, n, hl, _, _, h => by simp at hl
  | x :: l, v :: vs, m, n, hl, hr, hp, h => by
    simp only [maxL] at h
    simp only [pkl] at hp
    split at h
    · rename_i k hk
      have ev := isI_rep (sp_rep hg hp.1 (hr 0 x v rfl rfl)) hk
      subst ev
      have ih := run_maxL (P := P) hg l vs (max m k) n (by simpa using hl) (fun j x v h1 h2 => hr (j + 1) x v (by simpa using h1) (by simpa using h2)) hp.2 h
      have e : (if k > m then k else m) = max m k := by omega
      simp only [List.foldlM_cons, Builtin.max2, Sem.run_bind, Sem.run_pure, Result.andThen_ok, e, ih]
    · cases h

theorem opnds_rep {ι : Nat → Option (Nat × Nat)} {a : Act} {w : World} (S : SimI C σ ι a w) (args : List Operand) :
    ∀ (k : Nat) (x : AV) (v : Value), (args.map (opnd σ.e))[k]? = some x → (args.map a.eval)[k]? = some v → RepA (okOf σ.h ι w) ι w x v := by
  intro k x v h1 h2
  simp only [List.getElem?_map, Option.map_eq_some_iff] at h1 h2
  obtain ⟨p, hp, rfl⟩ := h1
  obtain ⟨q, hq, rfl⟩ := h2
  rw [hp] at hq; simp at hq; subst hq
  exact S.opnd p

theorem snd_min {args : Array Operand} {ts : Array TypeId} {out : Out} (ho : o.op = .call ⟨.builtin .min, args, ts⟩) (h : vMin g (args.toList.map (opnd σ.e)) = some out) : Snd C o g σ out := by
  unfold vMin at h
  split at h
  · cases h
  · rename_i x r hl
    split at h
    · rename_i m hm
      split at h
      · rename_i n hn
        simp only [Option.some.injEq] at h; subst h
        refine Snd.pure fun ι a w S hg hs => ?_
        refine ⟨.int .i64 n, ?_, trivial, by simp [RepA, RepD]⟩
        have hreps := opnds_rep S args.toList
        rw [hl] at hreps
        obtain ⟨cs, hcs⟩ := run_call_builtin (P := C.P) (w := w) (ρ := a.eval) ho
        rw [hcs]
        cases hv : args.toList.map a.eval with
        | nil => have h0 : args.toList = [] := by simpa using hv
                 simp [h0] at hl
        | cons v vs =>
          rw [hv] at hreps
          have hs' : pk g x ∧ pkl g r := by rw [hl] at hs; exact hs
          have ev := isI_rep (sp_rep hg hs'.1 (hreps 0 x v rfl rfl)) hm
          have hlen : vs.length = r.length := by have := congrArg List.length hl; have h2 := congrArg List.length hv; simp at this h2; omega
          have hr := run_minL (P := C.P) (w := w) hg r vs m n hlen (fun j x v h1 h2 => hreps (j + 1) x v (by simpa using h1) (by simpa using h2)) hs'.2 hn
          subst ev
          simp only [builtin, Builtin.min_, Array.toList_map, hv, Sem.run_bind, hr, Result.andThen_ok, Sem.run_pure]
      · cases h
    · cases h

theorem snd_max {args : Array Operand} {ts : Array TypeId} {out : Out} (ho : o.op = .call ⟨.builtin .max, args, ts⟩) (h : vMax g (args.toList.map (opnd σ.e)) = some out) : Snd C o g σ out := by
  unfold vMax at h
  split at h
  · cases h
  · rename_i x r hl
    split at h
    · rename_i m hm
      split at h
      · rename_i n hn
        simp only [Option.some.injEq] at h; subst h
        refine Snd.pure fun ι a w S hg hs => ?_
        refine ⟨.int .i64 n, ?_, trivial, by simp [RepA, RepD]⟩
        have hreps := opnds_rep S args.toList
        rw [hl] at hreps
        obtain ⟨cs, hcs⟩ := run_call_builtin (P := C.P) (w := w) (ρ := a.eval) ho
        rw [hcs]
        cases hv : args.toList.map a.eval with
        | nil => have h0 : args.toList = [] := by simpa using hv
                 simp [h0] at hl
        | cons v vs =>
          rw [hv] at hreps
          have hs' : pk g x ∧ pkl g r := by rw [hl] at hs; exact hs
          have ev := isI_rep (sp_rep hg hs'.1 (hreps 0 x v rfl rfl)) hm
          have hlen : vs.length = r.length := by have := congrArg List.length hl; have h2 := congrArg List.length hv; simp at this h2; omega
          have hr := run_maxL (P := C.P) (w := w) hg r vs m n hlen (fun j x v h1 h2 => hreps (j + 1) x v (by simpa using h1) (by simpa using h2)) hs'.2 hn
          subst ev
          simp only [builtin, Builtin.max_, Array.toList_map, hv, Sem.run_bind, hr, Result.andThen_ok, Sem.run_pure]
      · cases h
    · cases h

theorem snd_slice {T : Nat} {x : Operand} {lo hi : Option Operand} {out : Out} (ho : o.op = .slice T x lo hi none) (h : vSlice C.P T g (opnd σ.e x) (lo.map (opnd σ.e)) (hi.map (opnd σ.e)) = some out) : Snd C o g σ out := by
  unfold vSlice at h
  split at h
  · rename_i e l he hlo
    have hu := elOf_some he
    have hel : C.P.elem T = e := by simp [Program.elem, hu]
    -- the two bounds
    have bnd : ∀ {ι : Nat → Option (Nat × Nat)} {a : Act} {w : World} (S : SimI C σ ι a w) (hg : g = true) (q : Option Operand) (m : Nat) (i : Int), hiOf m (q.map (opnd σ.e)) = some i → opk g (q.map (opnd σ.e)) →
        (q = none ∧ i = m) ∨ ∃ k, q.map a.eval = some (.int k i) := by
      intro ι a w S hg q m i hq hp
      cases q with
      | none => simp [hiOf] at hq; exact .inl ⟨rfl, hq.symm⟩
      | some p =>
        simp only [Option.map_some, hiOf, Option.map_eq_some_iff] at hq
        obtain ⟨⟨k, n⟩, hk, rfl⟩ := hq
        exact .inr ⟨k, by simp only [Option.map_some]; rw [isI_rep (S.sopnd hg p hp) hk]⟩
    have key : ∀ {ι : Nat → Option (Nat × Nat)} {a : Act} {w : World} (S : SimI C σ ι a w) (hg : g = true) (b : Option Addr) (len cap n : Nat) (j : Int), a.eval x = .slice b len cap → (szOf C.P e == n && (C.P.info? e).isSome) = true → hiOf len (hi.map (opnd σ.e)) = some j →
        opk g (lo.map (opnd σ.e)) → opk g (hi.map (opnd σ.e)) → 0 ≤ l → l ≤ j → j ≤ cap →
        (execOp a.eval o).run C.P w = .ok (.value (.slice (if cap = l.toNat then b else b.map (·.add (l.toNat * n))) (j.toNat - l.toNat) (cap - l.toNat))) w := by
      intro ι a w S hg b len cap n j hx hz hj p1 p2 h0 h1 h2
      have hs := run_sizeOf (w := w) hz
      have hlo' := bnd S hg lo 0 l hlo p1
      have hhi' := bnd S hg hi len j hj p2
      have hb : (Instr.sliceBounds true len cap (lo.map a.eval) (hi.map a.eval) none).run C.P w = .ok (l.toNat, j.toNat, cap) w := by
        have r1 : ∀ k, (Instr.sliceBound (.int k j) cap .sliceAcap).run C.P w = .ok j.toNat w := fun k => run_sliceBound (P := C.P) w k j cap .sliceAcap (by omega) h2
        have r2 : ∀ k, (Instr.sliceBound (.int k l) j.toNat .sliceB).run C.P w = .ok l.toNat w := fun k => run_sliceBound (P := C.P) w k l j.toNat .sliceB h0 (by omega)
        rcases hhi' with ⟨rfl, rfl⟩ | ⟨k, hk⟩ <;> rcases hlo' with ⟨rfl, rfl⟩ | ⟨k', hk'⟩
        · simp [Instr.sliceBounds]
        · have r3 := r2 k'
          simp only [Int.toNat_natCast] at r3
          simp [Instr.sliceBounds, hk', r3]
        · simp [Instr.sliceBounds, hk, r1]
        · simp [Instr.sliceBounds, hk, hk', r1, r2]
      have hsl : (Instr.sliceAt T (.slice b len cap) (lo.map a.eval) (hi.map a.eval) none).run C.P w = .ok (.slice (if cap = l.toNat then b else b.map (·.add (l.toNat * n))) (j.toNat - l.toNat) (cap - l.toNat)) w := by
        rw [run_sliceAt_slice (P := C.P) w T _ _ _ _ (by rw [hel]; exact hu)]
        simp only [Instr.slice, Sem.run_bind, run_underlying hu, Result.andThen_ok, hb, hs, Sem.run_pure]
      simp only [execOp, ho, hx, Option.map_none, Sem.run_bind, hsl, Result.andThen_ok, Sem.run_pure]
    split at h
    · rename_i nm oo m n hx
      split at h
      · rename_i j hj
        cases hz : (szOf C.P e == n && (C.P.info? e).isSome)
        · simp [hz] at h
        · simp only [hz, cond_true, Option.some.injEq] at h; subst h
          refine Snd.pure fun ι a w S hg hs => ?_
          obtain ⟨p0, p1, p2, s0, s1, s2, s3⟩ := hs
          have ex := S.sopnd hg x p0
          rw [hx] at ex
          simp only [RepA] at ex
          rcases ex with ⟨hi0, ex, rfl, rfl⟩ | ⟨b, c, hi0, ex, hle⟩
          · have hl0 : l = 0 := by omega
            have hj0 : j = 0 := by omega
            subst hl0; subst hj0
            refine ⟨_, key S hg none 0 0 n 0 ex hz hj p1 p2 (by omega) (by omega) (by omega), trivial, ?_⟩
            simp [RepA, hi0]
          · refine ⟨_, key S hg (some ⟨b, oo * n, none⟩) m (c - oo) n j ex hz hj p1 p2 s0 s1 (by omega), trivial, ?_⟩
            simp only [RepA]
            refine .inr ⟨b, c, hi0, ?_, by omega⟩
            by_cases hc : c - oo = l.toNat
            · have hl0 : l.toNat = 0 := by omega
              simp [hc, hl0]
            · simp only [hc, if_false, Option.map_some, addr_add, Nat.add_mul]
              congr 1
              omega
      · cases h
    · rename_i n ls hx
      split at h
      · rename_i j hj
        cases hz : (szOf C.P e == n && (C.P.info? e).isSome)
        · simp [hz] at h
        · simp only [hz, cond_true, Option.some.injEq] at h; subst h
          refine Snd.pure fun ι a w S hg hs => ?_
          obtain ⟨p0, p1, p2, s0, s1, s2⟩ := hs
          have ex := S.sopnd hg x p0
          rw [hx] at ex
          simp only [RepA, RepD] at ex
          obtain ⟨hml, ex⟩ := ex
          rcases ex with ⟨rfl, b, cap, ex⟩ | ⟨b, oo, cap, vs, ex, hcap, hb, hrs, hc⟩
          · simp only [List.length_nil] at *
            have hl0 : l = 0 := by omega
            have hj0 : j = 0 := by omega
            subst hl0; subst hj0
            refine ⟨_, key S hg b 0 cap n 0 ex hz hj p1 p2 (by omega) (by omega) (by omega), trivial, ?_⟩
            simp only [RepA, RepD]
            exact ⟨by simp, .inl ⟨by simp, _, _, rfl⟩⟩
          · refine ⟨_, key S hg (some ⟨b, oo, none⟩) ls.length cap n j ex hz hj p1 p2 s0 s1 (by omega), trivial, ?_⟩
            simp only [RepA, RepD]
            have hlen : ((ls.take j.toNat).drop l.toNat).length = j.toNat - l.toNat := by simp; omega
            refine ⟨by omega, ?_⟩
            by_cases hz0 : j.toNat - l.toNat = 0
            · exact .inl ⟨List.eq_nil_of_length_eq_zero (by omega), by rw [hz0]; exact ⟨_, _, rfl⟩⟩
            · have hne : ¬ cap = l.toNat := by omega
              refine .inr ⟨b, oo + l.toNat * n, cap - l.toNat, (vs.take (j.toNat * n)).drop (l.toNat * n), ?_, by omega, hb, RepDss_drop _ (RepDss_take _ hrs), cellsAt_drop (cellsAt_take hc)⟩
              simp [hne, hlen, addr_add]
      · cases h
    · cases h
  · cases h

end
end Go.Eng
