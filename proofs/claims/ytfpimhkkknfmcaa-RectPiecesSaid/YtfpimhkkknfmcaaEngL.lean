import Derived.Test.YtfpimhkkknfmcaaEngK
namespace Go.Eng
open Go.RowKit

def isFn (P : Program) (f : FuncId) : Bool := match P.funcs[f]? with
  | some fn => !(fn.name == "runtime.NumGoroutine") && fn.body.isSome
  | none => false

/-- What is asked of an operation, a call too. -/
def SndW (C : Ctx) (o : Oper) (g : Bool) (σ : St) (out : Out) : Prop :=
  ∀ ι a w, SimI C σ ι a w → g = true → out.side → ∀ (K : Act → World → Prop) (Q : Exit → Act → World → Prop),
    (∀ v w' ι', out.know → SimI C ⟨σ.e, out.hp ++ σ.h⟩ ι' a w' → RepA (okOf (out.hp ++ σ.h) ι' w') ι' w' out.av v → K (a.put o.dst v) w') → o.wp C.P a w K Q

section
variable {C : Ctx} {σ : St} {o : Oper} {g : Bool}

theorem Snd.toW {out : Out} (h : Snd C o g σ out) : SndW C o g σ out := by
  intro ι a w S hg hs K Q hK
  obtain ⟨nx, w', v, h1, h2, h3, ι', h4, h5⟩ := h ι a w S hg hs
  unfold Oper.wp
  rw [h1]
  rcases h2 with rfl | ⟨rfl, rfl⟩
  · exact hK v w' ι' h3 h4 h5
  · exact hK undef w' ι' h3 h4 h5

theorem freshR_spec : ∀ {n k j : Nat}, freshR σ k n = true → k ≤ j → j < k + n → fresh j σ = true
  | 0, k, j, h, h1, h2 => by omega
  | n + 1, k, j, h, h1, h2 => by
    simp only [freshR, Bool.and_eq_true] at h
    by_cases hj : j = k
    · subst hj; exact h.1
    · exact freshR_spec h.2 (by omega) (by omega)

theorem snd_call {Γ : FuncId → List D → RV} {fz : Bool} {d f : Nat} {args : Array Operand} {ts : Array TypeId} {out : Out} (ho : o.op = .call ⟨.value (.func f), args, ts⟩) (hf : isFn C.P f = true)
    (h : vCall C.P Γ fz d f g σ (args.toList.map (opnd σ.e)) = some out) : SndW C o g σ out := by
  have hrun : ∀ (a : Act) (w : World), (execOp a.eval o).run C.P w = .ok (.enter f (args.map a.eval)) w := by
    intro a w
    unfold isFn at hf
    cases hfn : C.P.funcs[f]? with
    | none => simp [hfn] at hf
    | some fn =>
      simp only [hfn, Bool.and_eq_true, Bool.not_eq_true'] at hf
      obtain ⟨h1, h2⟩ := hf

      have h1' : ¬ fn.name = "runtime.NumGoroutine" := by simpa using h1
      have h3' : ¬ fn.body = none := by intro hb; simp [hb] at h2
      simp [execOp, ho, resolve, Act.eval, Deferred.ofValue, invoke, callFunc, hfn, h1', h3']
  unfold vCall at h
  split at h
  · cases h
  · rename_i ds p hds
    generalize Γ f ds = r at h
    unfold vCallR at h
    have key : ∀ ι a w, SimI C σ ι a w → g = true → p ∧ r.plain ∧ Fn C.P f ds r → ∀ (K : Act → World → Prop) (Q : Exit → Act → World → Prop),
        (∀ v w' bs, SimX C σ.e σ.h (fun b => okOf σ.h ι w' b ∧ b ∉ bs) ι a w' → bs.Nodup → (∀ b ∈ bs, C.own b ∧ okOf σ.h ι w' b ∧ ∀ nm x c, geth σ.h nm = some (true, x) → ι nm ≠ some (b, c)) → RepR (fun b => okOf σ.h ι w' b ∧ b ∉ bs) w' r v bs → K (a.put o.dst v) w') → o.wp C.P a w K Q := by
      intro ι a w S hg hs K Q hK
      unfold Oper.wp
      rw [hrun a w]
      have hargs := argsD_rep S hg args.toList ds p hds hs.1
      have hc := hs.2.2 w (args.map a.eval) (by simpa using hargs)
      refine hc.mono ?_
      rintro e w' ⟨v, bs, rfl, hbl, hnd, hbs, hr⟩
      have hlt : ∀ b, okOf σ.h ι w b → okOf σ.h ι w' b ∧ b ∉ bs := fun b hb => ⟨⟨Nat.lt_of_lt_of_le hb.1 hbl.size, hb.2⟩, fun hm => by have := hbs b hm; have := hb.1; omega⟩
      have hw : ∀ b, okOf σ.h ι w b → w'.heap[b]? = w.heap[b]? := fun b hb => hbl.block b hb.1
      have hnl : ∀ b ∈ bs, ∀ nm x c, geth σ.h nm = some (true, x) → ι nm ≠ some (b, c) := fun b hb nm x c hx hi => by have := S.live_lt hx hi; have := hbs b hb; omega
      exact hK v w' bs ⟨fun s => RepA.tr hlt hw _ _ (fun _ _ => rfl) (S.env s), fun nm x hx => (S.ent nm x hx).tr hlt hw (fun b c hi => hbl.block b (S.live_lt hx hi)) rfl (fun _ _ => rfl), S.inj, hbl.os.trans S.os, hbl.tape.trans S.tape, hbl.output.trans S.output, Nat.le_trans S.size hbl.size,
        fun k hk hx => (hbl.block k (Nat.lt_of_lt_of_le hk S.size)).trans (S.old k hk hx), S.def0, S.tms, fun b hb => hb.1⟩ hnd (fun b hb => ⟨.inl (Nat.le_trans S.size (hbs b hb)), ⟨RepR_lt r v bs hr b hb, hnl b hb⟩, hnl b hb⟩) (RepR_plain r v bs hs.2.1 hr)
    cases fz
    · simp only [cond_false] at h
      cases hfr0 : (freshR σ (10000 + 100 * d) ((inst (10000 + 100 * d) r).2.2 - (10000 + 100 * d)) && decide ((inst (10000 + 100 * d) r).2.2 ≤ 10000 + 100 * d + 100))
      · simp [hfr0] at h
      · simp only [hfr0, cond_true, Option.some.injEq] at h; subst h
        simp only [Bool.and_eq_true] at hfr0
        have hfr := hfr0.1
        intro ι a w S hg hs K Q hK
        refine key ι a w S hg hs K Q fun v w' bs SX hnd hb hr => ?_
        have hle := inst_le (C := C) (a := a) (w := w') r (10000 + 100 * d)
        obtain ⟨ι', N, R, _⟩ := inst_rep r (10000 + 100 * d) v bs ι σ.h SX hr hnd (fun b hb' => ⟨fun h => h.2 hb', (hb b hb').1, (hb b hb').2.2⟩) (fun j h1 h2 => freshR_spec hfr h1 (by omega))
        exact hK v w' ι' trivial N.sim.toI (RepA.tr N.sim.sub (fun _ _ => rfl) _ _ (fun _ _ => rfl) R)
    · simp only [cond_true, Option.some.injEq] at h; subst h
      intro ι a w S hg hs K Q hK
      refine key ι a w S hg hs K Q fun v w' bs SX hnd hb hr => ?_
      exact hK v w' ι trivial SX.toI (still_rep r v bs (fun b hb => hb.1) (fun b hb' => (hb b hb').2.1) hr)
end
end Go.Eng
