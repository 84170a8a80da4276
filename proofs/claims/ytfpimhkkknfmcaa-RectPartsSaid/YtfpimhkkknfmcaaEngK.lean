import Derived.Test.YtfpimhkkknfmcaaEngJ
namespace Go.Eng
open Go.RowKit

/-! ### What a call returns -/

inductive RV where
  | dat (d : D)
  | own (T n : Nat) (l : List (List D))
  | agg (l : List RV)
  | tup (l : List RV)

section
variable (ok : Nat → Prop) (w : World)
mutual
def RepR : RV → Value → List Nat → Prop
  | .dat d, v, bs => bs = [] ∧ RepD ok w d v
  | .own T n l, v, bs => (bs = [] ∧ l = [] ∧ v = .slice none 0 0) ∨ ∃ b cap cur, bs = [b] ∧ v = .slice (some ⟨b, 0, none⟩) l.length cap ∧ w.heap[b]? = some (.cells cur T (0, 0)) ∧
      cur.size = cap * n ∧ l.length ≤ cap ∧ cap ≤ maxLen ∧ RepDss ok w n l (cur.toList.take (l.length * n))
  | .agg l, v, bs => ∃ vs : List Value, v = .agg vs.toArray ∧ RepRs true l vs bs
  | .tup l, v, bs => ∃ vs : List Value, v = .tuple vs.toArray ∧ RepRs false l vs bs
def RepRs (one : Bool) : List RV → List Value → List Nat → Prop
  | [], vs, bs => vs = [] ∧ bs = []
  | r :: l, vs, bs => ∃ v vs' b1 b2, vs = v :: vs' ∧ bs = b1 ++ b2 ∧ RepR r v b1 ∧ (one = true → v.oneCell' = true) ∧ RepRs one l vs' b2
end
end

/-- The arguments, as data. -/
def RepL (ok : Nat → Prop) (w : World) : List D → List Value → Prop
  | [], vs => vs = []
  | d :: l, vs => ∃ v vs', vs = v :: vs' ∧ RepD ok w d v ∧ RepL ok w l vs'

/-- The function, called with these data, returns these data, in new memory; what was there is as it was. -/
def Fn (P : Program) (f : FuncId) (ds : List D) (r : RV) : Prop :=
  ∀ (w : World) (vs : Array Value), RepL (· < w.heap.size) w ds vs.toList →
    Calls P f vs w fun e w' => ∃ v bs, e = .returned v ∧ Below w.heap.size w w' ∧ bs.Nodup ∧ (∀ b ∈ bs, w.heap.size ≤ b) ∧ RepR (fun _ => True) w' r v bs

mutual
/-- A call's result, its slices by name. -/
def inst (k : Nat) : RV → AV × Hp × Nat
  | .dat d => (.dat d, [], k)
  | .own T n l => (.vw k 0 l.length n, [(k, some (true, .arr T n l))], k + 1)
  | .agg l => (mkAgg (insts k l).1, (insts k l).2.1, (insts k l).2.2)
  | .tup l => (.tup (insts k l).1, (insts k l).2.1, (insts k l).2.2)
def insts (k : Nat) : List RV → List AV × Hp × Nat
  | [] => ([], [], k)
  | r :: l => ((inst k r).1 :: (insts (inst k r).2.2 l).1, (insts (inst k r).2.2 l).2.1 ++ (inst k r).2.1, (insts (inst k r).2.2 l).2.2)
end

mutual
/-- A call's result, never to be written again. -/
def still : RV → AV
  | .dat d => .dat d
  | .own _ n l => .dat (.sl n l)
  | .agg l => mkAgg (stills l)
  | .tup l => .tup (stills l)
def stills : List RV → List AV
  | [] => []
  | r :: l => still r :: stills l
end

mutual
/-- A value as data. -/
def toD (h : Hp) : AV → Option (D × Prop)
  | .dat d => some (d, True)
  | .vw nm o m n => match geth h nm with
    | some (g', .arr _ n' l) => bif n == n' then some (.sl n ((l.drop o).take m), g' = true ∧ o + m ≤ l.length) else none
    | _ => none
  | .agg l => match toDs h l with
    | some (ds, p) => some (.agg ds, p)
    | none => none
  | _ => none
def toDs (h : Hp) : List AV → Option (List D × Prop)
  | [] => some ([], True)
  | a :: l => match toD h a, toDs h l with
    | some (d, p), some (ds, q) => some (d :: ds, p ∧ q)
    | _, _ => none
end

/-- The names from k to k' - 1 are free. -/
def freshR (σ : St) : Nat → Nat → Bool
  | _, 0 => true
  | k, n + 1 => fresh k σ && freshR σ (k + 1) n

mutual
/-- No slice lies in it. -/
def D.plain : D → Bool
  | .agg l => D.plainL l
  | .sl .. => false
  | _ => true
def D.plainL : List D → Bool
  | [] => true
  | d :: l => d.plain && D.plainL l
end
def D.plainLL : List (List D) → Bool
  | [] => true
  | x :: l => D.plainL x && D.plainLL l
mutual
def RV.plain : RV → Prop
  | .dat d => d.plain = true
  | .own _ _ l => D.plainLL l = true
  | .agg l => RV.plainL l
  | .tup l => RV.plainL l
def RV.plainL : List RV → Prop
  | [] => True
  | r :: l => r.plain ∧ RV.plainL l
end

def argsD (g : Bool) (h : Hp) : List AV → Option (List D × Prop)
  | [] => some ([], True)
  | a :: l => match toD h (sp a), argsD g h l with
    | some (d, p), some (ds, q) => some (d :: ds, pk g a ∧ p ∧ q)
    | _, _ => none

def vCallR (P : Program) (fz : Bool) (d : Nat) (f : FuncId) (σ : St) (ds : List D) (p : Prop) (r : RV) : Option Out :=
  bif fz then some ⟨still r, [], p ∧ r.plain ∧ Fn P f ds r, True⟩
  else bif freshR σ (10000 + 100 * d) ((inst (10000 + 100 * d) r).2.2 - (10000 + 100 * d)) && decide ((inst (10000 + 100 * d) r).2.2 ≤ 10000 + 100 * d + 100) then some ⟨(inst (10000 + 100 * d) r).1, (inst (10000 + 100 * d) r).2.1, p ∧ r.plain ∧ Fn P f ds r, True⟩ else none

/-- A call; Γ says what each function returns. -/
def vCall (P : Program) (Γ : FuncId → List D → RV) (fz : Bool) (d : Nat) (f : FuncId) (g : Bool) (σ : St) (as : List AV) : Option Out :=
  match argsD g σ.h as with
  | none => none
  | some (ds, p) => vCallR P fz d f σ ds p (Γ f ds)

section
variable {C : Ctx} {σ : St} {o : Oper} {g : Bool} {ι : Nat → Option (Nat × Nat)} {a : Act} {w : World}

mutual
theorem toD_rep (S : SimI C σ ι a w) : ∀ (x : AV) (v : Value) (d : D) (p : Prop), RepA (okOf σ.h ι w) ι w x v → toD σ.h x = some (d, p) → p → RepD (· < w.heap.size) w d v
  | .dat d', v, d, p, h, ht, hp => by
    simp only [toD, Option.some.injEq, Prod.mk.injEq] at ht
    obtain ⟨rfl, _⟩ := ht
    simp only [RepA] at h
    exact RepD.tr (fun b hb => hb.1) (fun _ _ => rfl) _ _ h
  | .vw nm oo m n, v, d, p, h, ht, hp => by
    simp only [toD] at ht
    split at ht
    · rename_i g' T n' l hh
      cases hn : n == n'
      · simp [hn] at ht
      · simp only [hn, cond_true, Option.some.injEq, Prod.mk.injEq] at ht
        simp only [beq_iff_eq] at hn; subst hn
        obtain ⟨rfl, rfl⟩ := ht
        obtain ⟨rfl, hle⟩ := hp
        simp only [RepA] at h
        have hlen : ((l.drop oo).take m).length = m := by simp; omega
        simp only [RepD]
        rcases h with ⟨hi, rfl, rfl, rfl⟩ | ⟨b, c, hi, rfl, hoc⟩
        · exact ⟨by simp, .inl ⟨by simp, _, _, rfl⟩⟩
        · rcases S.ent nm _ hh with ⟨h1, _⟩ | ⟨b', cap, cur, h1, h2, h3, h4, h5, h6, h7⟩
          · rw [hi] at h1; cases h1
          · rw [hi] at h1; simp only [Option.some.injEq, Prod.mk.injEq] at h1
            obtain ⟨rfl, rfl⟩ := h1
            refine ⟨by omega, .inr ⟨b, oo * n, c - oo, _, by rw [hlen], by omega, (Array.getElem?_eq_some_iff.1 h3).1, RepDss.tr (fun b hb => hb.1) (fun _ _ => rfl) _ _ _ (RepDss_take m (RepDss_drop oo h7)), ?_⟩⟩
            have hc := cellsAt_take (k := m * n) (cellsAt_drop (k := oo * n) (cellsAt_take (k := l.length * n) (cellsAt_block (o := 0) h3)))
            simpa using hc
    · cases ht
  | .agg l, v, d, p, h, ht, hp => by
    simp only [toD] at ht
    split at ht
    · rename_i ds q hds
      simp only [Option.some.injEq, Prod.mk.injEq] at ht
      obtain ⟨rfl, rfl⟩ := ht
      simp only [RepA] at h
      obtain ⟨vs, rfl, h⟩ := h
      simp only [RepD]
      exact ⟨vs, rfl, toDs_rep S l vs ds q h hds hp⟩
    · cases ht
  | .un, v, d, p, h, ht, hp | .tup _, v, d, p, h, ht, hp | .rp _, v, d, p, h, ht, hp | .pt .., v, d, p, h, ht, hp | .ep .., v, d, p, h, ht, hp | .gd .., v, d, p, h, ht, hp => by simp [toD] at ht
theorem toDs_rep (S : SimI C σ ι a w) : ∀ (l : List AV) (vs : List Value) (ds : List D) (p : Prop), RepAs (okOf σ.h ι w) ι w true l vs → toDs σ.h l = some (ds, p) → p → RepDs (· < w.heap.size) w ds vs
  | [], vs, ds, p, h, ht, hp => by
    simp only [toDs, Option.some.injEq, Prod.mk.injEq] at ht
    obtain ⟨rfl, _⟩ := ht
    simpa only [RepAs, RepDs] using h
  | x :: l, vs, ds, p, h, ht, hp => by
    simp only [toDs] at ht
    split at ht
    · rename_i d p1 ds' p2 h1 h2
      simp only [Option.some.injEq, Prod.mk.injEq] at ht
      obtain ⟨rfl, rfl⟩ := ht
      simp only [RepAs] at h
      obtain ⟨v, vs', rfl, h3, h4, h5⟩ := h
      simp only [RepDs]
      exact ⟨v, vs', rfl, toD_rep S x v d p1 h3 h1 hp.1, by simpa using h4, toDs_rep S l vs' ds' p2 h5 h2 hp.2⟩
    · cases ht
end

theorem argsD_rep (S : SimI C σ ι a w) (hg : g = true) : ∀ (l : List Operand) (ds : List D) (p : Prop), argsD g σ.h (l.map (opnd σ.e)) = some (ds, p) → p → RepL (· < w.heap.size) w ds (l.map a.eval)
  | [], ds, p, h, hp => by
    simp only [List.map_nil, argsD, Option.some.injEq, Prod.mk.injEq] at h
    obtain ⟨rfl, _⟩ := h
    simp [RepL]
  | x :: l, ds, p, h, hp => by
    simp only [List.map_cons, argsD] at h
    split at h
    · rename_i d p1 ds' p2 h1 h2
      simp only [Option.some.injEq, Prod.mk.injEq] at h
      obtain ⟨rfl, rfl⟩ := h
      simp only [List.map_cons, RepL]
      exact ⟨_, _, rfl, toD_rep S _ _ d p1 (S.sopnd hg x hp.1) h1 hp.2.1, argsD_rep S hg l ds' p2 h2 hp.2.2⟩
    · cases h

mutual
theorem still_rep {ok ok' : Nat → Prop} {w : World} {ι : Nat → Option (Nat × Nat)} : ∀ (r : RV) (v : Value) (bs : List Nat), (∀ b, ok b → ok' b) → (∀ b ∈ bs, ok' b) → RepR ok w r v bs → RepA ok' ι w (still r) v
  | .dat d, v, bs, hok, hb, h => by
    simp only [RepR] at h
    simp only [still, RepA]
    exact RepD.tr hok (fun _ _ => rfl) _ _ h.2
  | .own T n l, v, bs, hok, hb, h => by
    simp only [RepR] at h
    simp only [still, RepA, RepD]
    rcases h with ⟨rfl, rfl, rfl⟩ | ⟨b, cap, cur, rfl, rfl, h3, h4, h5, h6, h7⟩
    · exact ⟨by simp, .inl ⟨rfl, _, _, rfl⟩⟩
    · refine ⟨by omega, .inr ⟨b, 0, cap, _, rfl, h5, hb b (by simp), RepDss.tr hok (fun _ _ => rfl) _ _ _ h7, ?_⟩⟩
      have hc := cellsAt_take (k := l.length * n) (cellsAt_block (o := 0) h3)
      simpa using hc
  | .agg l, v, bs, hok, hb, h => by
    simp only [RepR] at h
    obtain ⟨vs, rfl, h⟩ := h
    simp only [still]
    exact mkAgg_rep (stills_rep true l vs bs hok hb h)
  | .tup l, v, bs, hok, hb, h => by
    simp only [RepR] at h
    obtain ⟨vs, rfl, h⟩ := h
    simp only [still, RepA]
    exact ⟨vs, rfl, stills_rep false l vs bs hok hb h⟩
theorem stills_rep {ok ok' : Nat → Prop} {w : World} {ι : Nat → Option (Nat × Nat)} (one : Bool) : ∀ (l : List RV) (vs : List Value) (bs : List Nat), (∀ b, ok b → ok' b) → (∀ b ∈ bs, ok' b) → RepRs ok w one l vs bs → RepAs ok' ι w one (stills l) vs
  | [], vs, bs, hok, hb, h => by
    simp only [RepRs] at h
    simp only [stills, RepAs]
    exact h.1
  | r :: l, vs, bs, hok, hb, h => by
    simp only [RepRs] at h
    obtain ⟨v, vs', b1, b2, rfl, rfl, h1, h2, h3⟩ := h
    simp only [stills, RepAs]
    exact ⟨v, vs', rfl, still_rep r v b1 hok (fun b hb' => hb b (by simp [hb'])) h1, h2, stills_rep one l vs' b2 hok (fun b hb' => hb b (by simp [hb'])) h3⟩
end

mutual
theorem RepD_plain {ok ok' : Nat → Prop} {w w' : World} : ∀ (d : D) (v : Value), d.plain = true → RepD ok w d v → RepD ok' w' d v
  | .i n, v, _, h => by simpa only [RepD] using h
  | .b c, v, _, h => by simpa only [RepD] using h
  | .v u, v, _, h => by simpa only [RepD] using h
  | .agg l, v, hp, h => by
    simp only [RepD] at h ⊢
    obtain ⟨vs, e, h⟩ := h
    exact ⟨vs, e, RepDs_plain l vs (by simpa only [D.plain] using hp) h⟩
  | .sl n l, v, hp, h => by simp [D.plain] at hp
theorem RepDs_plain {ok ok' : Nat → Prop} {w w' : World} : ∀ (l : List D) (vs : List Value), D.plainL l = true → RepDs ok w l vs → RepDs ok' w' l vs
  | [], vs, _, h => by simpa only [RepDs] using h
  | d :: l, vs, hp, h => by
    simp only [D.plainL, Bool.and_eq_true] at hp
    simp only [RepDs] at h ⊢
    obtain ⟨v, vs', e, h1, h2, h3⟩ := h
    exact ⟨v, vs', e, RepD_plain d v hp.1 h1, h2, RepDs_plain l vs' hp.2 h3⟩
end
theorem RepDss_plain {ok ok' : Nat → Prop} {w w' : World} {n : Nat} : ∀ (l : List (List D)) (vs : List Value), D.plainLL l = true → RepDss ok w n l vs → RepDss ok' w' n l vs
  | [], vs, _, h => by simpa only [RepDss] using h
  | x :: l, vs, hp, h => by
    simp only [D.plainLL, Bool.and_eq_true] at hp
    simp only [RepDss] at h ⊢
    obtain ⟨v1, v2, e, h1, h2, h3⟩ := h
    exact ⟨v1, v2, e, h1, RepDs_plain x v1 hp.1 h2, RepDss_plain l v2 hp.2 h3⟩
mutual
theorem RepR_plain {ok ok' : Nat → Prop} {w : World} : ∀ (r : RV) (v : Value) (bs : List Nat), r.plain → RepR ok w r v bs → RepR ok' w r v bs
  | .dat d, v, bs, hp, h => by
    simp only [RepR] at h ⊢
    exact ⟨h.1, RepD_plain d v (by simpa only [RV.plain] using hp) h.2⟩
  | .own T n l, v, bs, hp, h => by
    simp only [RepR] at h ⊢
    rcases h with h | ⟨b, cap, cur, h1, h2, h3, h4, h5, h6, h7⟩
    · exact .inl h
    · exact .inr ⟨b, cap, cur, h1, h2, h3, h4, h5, h6, RepDss_plain l _ (by simpa only [RV.plain] using hp) h7⟩
  | .agg l, v, bs, hp, h => by
    simp only [RepR] at h ⊢
    obtain ⟨vs, e, h⟩ := h
    exact ⟨vs, e, RepRs_plain true l vs bs (by simpa only [RV.plain] using hp) h⟩
  | .tup l, v, bs, hp, h => by
    simp only [RepR] at h ⊢
    obtain ⟨vs, e, h⟩ := h
    exact ⟨vs, e, RepRs_plain false l vs bs (by simpa only [RV.plain] using hp) h⟩
theorem RepRs_plain {ok ok' : Nat → Prop} {w : World} (one : Bool) : ∀ (l : List RV) (vs : List Value) (bs : List Nat), RV.plainL l → RepRs ok w one l vs bs → RepRs ok' w one l vs bs
  | [], vs, bs, _, h => by simpa only [RepRs] using h
  | r :: l, vs, bs, hp, h => by
    simp only [RV.plainL] at hp
    simp only [RepRs] at h ⊢
    obtain ⟨v, vs', b1, b2, e1, e2, h1, h2, h3⟩ := h
    exact ⟨v, vs', b1, b2, e1, e2, RepR_plain r v b1 hp.1 h1, h2, RepRs_plain one l vs' b2 hp.2 h3⟩
end
mutual
theorem RepR_lt {ok : Nat → Prop} {w : World} : ∀ (r : RV) (v : Value) (bs : List Nat), RepR ok w r v bs → ∀ b ∈ bs, b < w.heap.size
  | .dat d, v, bs, h => by simp only [RepR] at h; simp [h.1]
  | .own T n l, v, bs, h => by
    simp only [RepR] at h
    rcases h with ⟨rfl, _⟩ | ⟨b, cap, cur, rfl, h2, h3, _⟩
    · simp
    · intro b' hb'
      simp only [List.mem_singleton] at hb'; subst hb'
      exact (Array.getElem?_eq_some_iff.1 h3).1
  | .agg l, v, bs, h => by
    simp only [RepR] at h
    obtain ⟨vs, e, h⟩ := h
    exact RepRs_lt true l vs bs h
  | .tup l, v, bs, h => by
    simp only [RepR] at h
    obtain ⟨vs, e, h⟩ := h
    exact RepRs_lt false l vs bs h
theorem RepRs_lt {ok : Nat → Prop} {w : World} (one : Bool) : ∀ (l : List RV) (vs : List Value) (bs : List Nat), RepRs ok w one l vs bs → ∀ b ∈ bs, b < w.heap.size
  | [], vs, bs, h => by simp only [RepRs] at h; simp [h.2]
  | r :: l, vs, bs, h => by
    simp only [RepRs] at h
    obtain ⟨v, vs', b1, b2, e1, rfl, h1, h2, h3⟩ := h
    intro b hb
    simp only [List.mem_append] at hb
    rcases hb with hb | hb
    · exact RepR_lt r v b1 h1 b hb
    · exact RepRs_lt one l vs' b2 h3 b hb
end

/-- The relation over blocks that are known to be left alone. -/
structure SimX (C : Ctx) (e : List (Nat × AV)) (h : Hp) (okp : Nat → Prop) (ι : Nat → Option (Nat × Nat)) (a : Act) (w : World) : Prop where
  env : ∀ s, RepA okp ι w (get e s) (a.tmps.getD s undef)
  ent : ∀ nm x, geth h nm = some (true, x) → EntOk C.own okp ι w nm x
  inj : ∀ nm nm' x x' b c c', geth h nm = some (true, x) → geth h nm' = some (true, x') → nm ≠ nm' → ι nm = some (b, c) → ι nm' ≠ some (b, c')
  os : w.os = C.w0.os
  tape : w.tape = C.w0.tape
  output : w.output = C.w0.output
  size : C.w0.heap.size ≤ w.heap.size
  old : ∀ k, k < C.w0.heap.size → ¬ C.X k → w.heap[k]? = C.w0.heap[k]?
  def0 : a.defers = []
  tms : a.tmps.size = C.n
  sub : ∀ b, okp b → okOf h ι w b

theorem SimX.toI {e : List (Nat × AV)} {h : Hp} {okp : Nat → Prop} (S : SimX C e h okp ι a w) : SimI C ⟨e, h⟩ ι a w :=
  ⟨fun s => RepA.tr S.sub (fun _ _ => rfl) _ _ (fun _ _ => rfl) (S.env s), fun nm x hx => (S.ent nm x hx).tr S.sub (fun _ _ => rfl) (fun _ _ _ => rfl) rfl (fun _ _ => rfl), S.inj, S.os, S.tape, S.output, S.size, S.old, S.def0, S.tms⟩

theorem SimX.name {e : List (Nat × AV)} {h : Hp} {okp : Nat → Prop} (S : SimX C e h okp ι a w) {d : Nat} {p : Option (Nat × Nat)} {T n : Nat} {l : List (List D)} (hf : fresh d ⟨e, h⟩ = true)
    (hnew : ∀ b c, p = some (b, c) → ¬ okp b ∧ ∀ nm y c', geth h nm = some (true, y) → ι nm ≠ some (b, c'))
    (hx : EntOk C.own okp (fun k => if k = d then p else ι k) w d (.arr T n l)) :
    SimX C e ((d, some (true, .arr T n l)) :: h) okp (fun k => if k = d then p else ι k) a w := by
  simp only [fresh, Bool.and_eq_true] at hf
  have hlive : ∀ k y, geth ((d, some (true, .arr T n l)) :: h) k = some (true, y) → k ≠ d → geth h k = some (true, y) := by
    intro k y hh hk
    simp only [geth] at hh
    have : (d == k) = false := by simpa using fun e => hk e.symm
    rw [this] at hh; exact hh
  have hne : ∀ (A : AV), A.refs d = false → ∀ k, A.refs k = true → (if k = d then p else ι k) = ι k := by
    intro A hA k hk
    rw [if_neg]
    rintro rfl
    rw [hA] at hk; cases hk
  refine ⟨fun s => RepA.tr (fun _ h => h) (fun _ _ => rfl) _ _ (hne _ (get_refs hf.1 s)) (S.env s), fun k y hy => ?_, ?_, S.os, S.tape, S.output, S.size, S.old, S.def0, S.tms, ?_⟩
  · by_cases hk : k = d
    · subst hk
      have : y = .arr T n l := by simp [geth] at hy; exact hy.symm
      subst this
      exact hx
    · have h1 := hlive k y hy hk
      have h2 := geth_refs hf.2 h1
      refine (S.ent k y h1).tr (fun _ h => h) (fun _ _ => rfl) (fun _ _ _ => rfl) (by simp [hk]) (fun j hj => ?_)
      rw [if_neg]
      rintro rfl
      rw [h2] at hj; cases hj
  · intro k k' y y' b c c' h1 h2 hkk hi
    by_cases hk : k = d
    · subst hk
      have hk' : k' ≠ k := fun e => hkk e.symm
      simp only [if_true] at hi
      simp only [hk', if_false]
      exact (hnew b c hi).2 k' y' c' (hlive _ _ h2 hk')
    · simp only [hk, if_false] at hi
      by_cases hk' : k' = d
      · subst hk'
        simp only [if_true]
        intro hp
        exact (hnew b c' hp).2 k y c (hlive _ _ h1 hk) hi
      · simp only [hk', if_false]
        exact S.inj k k' y y' b c c' (hlive _ _ h1 hk) (hlive _ _ h2 hk') hkk hi
  · intro b hb
    have h0 := S.sub b hb
    refine ⟨h0.1, fun k y c hy => ?_⟩
    by_cases hk : k = d
    · subst hk
      simp only [if_true]
      intro hp
      exact (hnew b c hp).1 hb
    · simp only [hk, if_false]
      exact h0.2 k y c (hlive k y hy hk)

/-- What naming a result's slices brings. -/
structure Named (C : Ctx) (e : List (Nat × AV)) (h h' : Hp) (okp : Nat → Prop) (ι ι' : Nat → Option (Nat × Nat)) (a : Act) (w : World) (k k' : Nat) (bs : List Nat) : Prop where
  sim : SimX C e (h' ++ h) okp ι' a w
  le : k ≤ k'
  same : ∀ j, j < k ∨ k' ≤ j → ι' j = ι j
  live : ∀ nm x b c, geth (h' ++ h) nm = some (true, x) → ι' nm = some (b, c) → b ∈ bs ∨ ∃ y, geth h nm = some (true, y) ∧ ι nm = some (b, c)
  free : ∀ j, k' ≤ j → fresh j ⟨e, h⟩ = true → fresh j ⟨e, h' ++ h⟩ = true

def AV.within (k k' : Nat) (A : AV) : Prop := ∀ j, A.refs j = true → k ≤ j ∧ j < k'

theorem refsL_mkAgg {l : List AV} {j : Nat} (h : (mkAgg l).refs j = true) : AV.refsL j l = true := by
  unfold mkAgg at h
  split at h
  · simp [AV.refs] at h
  · simpa only [AV.refs] using h

mutual
theorem inst_rep {e : List (Nat × AV)} {okp : Nat → Prop} : ∀ (r : RV) (k : Nat) (v : Value) (bs : List Nat) (ι : Nat → Option (Nat × Nat)) (h : Hp), SimX C e h okp ι a w → RepR okp w r v bs → bs.Nodup →
    (∀ b ∈ bs, ¬ okp b ∧ C.own b ∧ ∀ nm x c, geth h nm = some (true, x) → ι nm ≠ some (b, c)) → (∀ j, k ≤ j → j < (inst k r).2.2 → fresh j ⟨e, h⟩ = true) →
    ∃ ι', Named C e h (inst k r).2.1 okp ι ι' a w k (inst k r).2.2 bs ∧ RepA okp ι' w (inst k r).1 v ∧ (inst k r).1.within k (inst k r).2.2
  | .dat d, k, v, bs, ι, h, S, hr, hn, hb, hf => by
    simp only [RepR] at hr
    exact ⟨ι, ⟨S, Nat.le_refl _, fun _ _ => rfl, fun nm x b c h1 h2 => .inr ⟨x, h1, h2⟩, fun j _ hj => hj⟩, by simp only [inst, RepA]; exact hr.2, fun j hj => by simp [inst, AV.refs] at hj⟩
  | .own T n l, k, v, bs, ι, h, S, hr, hn, hb, hf => by
    simp only [RepR] at hr
    have hfk := hf k (Nat.le_refl _) (by simp [inst])
    have hlive : ∀ {p : Option (Nat × Nat)} (nm : Nat) (x : Ent) (b c : Nat), geth ((k, some (true, .arr T n l)) :: h) nm = some (true, x) → (if nm = k then p else ι nm) = some (b, c) → (nm = k ∧ p = some (b, c)) ∨ (geth h nm = some (true, x) ∧ ι nm = some (b, c)) := by
      intro p nm x b c h1 h2
      by_cases hk : nm = k
      · subst hk; simp at h2; exact .inl ⟨rfl, h2⟩
      · simp only [hk, if_false] at h2
        simp only [geth] at h1
        have : (k == nm) = false := by simpa using fun e => hk e.symm
        rw [this] at h1
        exact .inr ⟨h1, h2⟩
    have hfree : ∀ j, k + 1 ≤ j → fresh j ⟨e, h⟩ = true → fresh j ⟨e, [(k, some (true, .arr T n l))] ++ h⟩ = true := fun j _ hj => fresh_arr (σ := ⟨e, h⟩) hj
    rcases hr with ⟨rfl, rfl, rfl⟩ | ⟨b, cap, cur, rfl, rfl, h3, h4, h5, h6, h7⟩
    · refine ⟨_, ⟨S.name (d := k) (p := none) hfk (fun b c hp => by cases hp) (.inl ⟨by simp, rfl⟩), by simp [inst], fun j hj => ?_, fun nm x b c h1 h2 => ?_, hfree⟩, ?_, ?_⟩
      · rw [if_neg]; simp only [inst] at hj; omega
      · rcases hlive nm x b c h1 h2 with ⟨_, h⟩ | h
        · cases h
        · exact .inr ⟨x, h⟩
      · simp [inst, RepA]
      · intro j hj; simp only [inst, AV.refs, beq_iff_eq] at hj ⊢; omega
    · obtain ⟨hb1, hb2, hb3⟩ := hb b (by simp)
      refine ⟨_, ⟨S.name (d := k) (p := some (b, cap)) hfk (fun b' c' hp => ?_) (.inr ⟨b, cap, cur, by simp, hb2, h3, h4, h5, h6, h7⟩), by simp [inst], fun j hj => ?_, fun nm x b' c' h1 h2 => ?_, hfree⟩, ?_, ?_⟩
      · simp only [Option.some.injEq, Prod.mk.injEq] at hp
        obtain ⟨rfl, rfl⟩ := hp
        exact ⟨hb1, hb3⟩
      · rw [if_neg]; simp only [inst] at hj; omega
      · rcases hlive nm x b' c' h1 h2 with ⟨_, h⟩ | h
        · simp only [Option.some.injEq, Prod.mk.injEq] at h; exact .inl (by simp [h.1])
        · exact .inr ⟨x, h⟩
      · simp only [inst, RepA]; exact .inr ⟨b, cap, by simp, by simp, by omega⟩
      · intro j hj; simp only [inst, AV.refs, beq_iff_eq] at hj ⊢; omega
  | .agg l, k, v, bs, ι, h, S, hr, hn, hb, hf => by
    simp only [RepR] at hr
    obtain ⟨vs, rfl, hr⟩ := hr
    simp only [inst] at hf ⊢
    obtain ⟨ι', h1, h2, h3⟩ := insts_rep true l k vs bs ι h S hr hn hb hf
    exact ⟨ι', h1, mkAgg_rep h2, fun j hj => h3 j (refsL_mkAgg hj)⟩
  | .tup l, k, v, bs, ι, h, S, hr, hn, hb, hf => by
    simp only [RepR] at hr
    obtain ⟨vs, rfl, hr⟩ := hr
    simp only [inst] at hf ⊢
    obtain ⟨ι', h1, h2, h3⟩ := insts_rep false l k vs bs ι h S hr hn hb hf
    exact ⟨ι', h1, by simp only [RepA]; exact ⟨vs, rfl, h2⟩, fun j hj => h3 j (by simpa only [AV.refs] using hj)⟩
theorem insts_rep {e : List (Nat × AV)} {okp : Nat → Prop} (one : Bool) : ∀ (l : List RV) (k : Nat) (vs : List Value) (bs : List Nat) (ι : Nat → Option (Nat × Nat)) (h : Hp), SimX C e h okp ι a w → RepRs okp w one l vs bs → bs.Nodup →
    (∀ b ∈ bs, ¬ okp b ∧ C.own b ∧ ∀ nm x c, geth h nm = some (true, x) → ι nm ≠ some (b, c)) → (∀ j, k ≤ j → j < (insts k l).2.2 → fresh j ⟨e, h⟩ = true) →
    ∃ ι', Named C e h (insts k l).2.1 okp ι ι' a w k (insts k l).2.2 bs ∧ RepAs okp ι' w one (insts k l).1 vs ∧ (∀ j, AV.refsL j (insts k l).1 = true → k ≤ j ∧ j < (insts k l).2.2)
  | [], k, vs, bs, ι, h, S, hr, hn, hb, hf => by
    simp only [RepRs] at hr
    exact ⟨ι, ⟨S, Nat.le_refl _, fun _ _ => rfl, fun nm x b c h1 h2 => .inr ⟨x, h1, h2⟩, fun j _ hj => hj⟩, by simp only [insts, RepAs]; exact hr.1, fun j hj => by simp [insts, AV.refsL] at hj⟩
  | r :: l, k, vs, bs, ι, h, S, hr, hn, hb, hf => by
    simp only [RepRs] at hr
    obtain ⟨v, vs', b1, b2, rfl, rfl, hr1, hone, hr2⟩ := hr
    simp only [insts] at hf ⊢
    have hn1 := (List.nodup_append.1 hn).1
    have hn2 := (List.nodup_append.1 hn).2.1
    have hn3 := (List.nodup_append.1 hn).2.2
    have hle : (inst k r).2.2 ≤ (insts (inst k r).2.2 l).2.2 := insts_le l _
    obtain ⟨ι1, N1, R1, W1⟩ := inst_rep r k v b1 ι h S hr1 hn1 (fun b hb' => hb b (by simp [hb'])) (fun j h1 h2 => hf j h1 (by omega))
    obtain ⟨ι2, N2, R2, W2⟩ := insts_rep one l (inst k r).2.2 vs' b2 ι1 _ N1.sim hr2 hn2 (fun b hb' => by
      obtain ⟨q1, q2, q3⟩ := hb b (by simp [hb'])
      refine ⟨q1, q2, fun nm x c hx hi => ?_⟩
      rcases N1.live nm x b c hx hi with h1 | ⟨y, h1, h2⟩
      · exact hn3 b h1 b hb' rfl
      · exact q3 nm y c h1 h2) (fun j h1 h2 => N1.free j h1 (hf j (Nat.le_trans N1.le h1) h2))
    refine ⟨ι2, ⟨by rw [List.append_assoc]; exact N2.sim, Nat.le_trans N1.le N2.le, fun j hj => ?_, fun nm x b c h1 h2 => ?_, fun j h1 h2 => ?_⟩, ?_, ?_⟩
    · rw [N2.same j (by have := N1.le; have := N2.le; omega), N1.same j (by have := N1.le; have := N2.le; omega)]
    · rw [List.append_assoc] at h1
      rcases N2.live nm x b c h1 h2 with h3 | ⟨y, h3, h4⟩
      · exact .inl (by simp [h3])
      · rcases N1.live nm y b c h3 h4 with h5 | h5
        · exact .inl (by simp [h5])
        · exact .inr h5
    · rw [List.append_assoc]
      exact N2.free j h1 (N1.free j (Nat.le_trans N2.le h1) h2)
    · simp only [RepAs]
      refine ⟨v, vs', rfl, RepA.tr (fun _ h => h) (fun _ _ => rfl) _ _ (fun j hj => N2.same j (.inl (W1 j hj).2)) R1, hone, R2⟩
    · intro j hj
      simp only [AV.refsL, Bool.or_eq_true] at hj
      have := N1.le
      have := N2.le
      rcases hj with hj | hj
      · have := W1 j hj; omega
      · have := W2 j hj; omega
theorem inst_le : ∀ (r : RV) (k : Nat), k ≤ (inst k r).2.2
  | .dat d, k => Nat.le_refl _
  | .own T n l, k => by simp [inst]
  | .agg l, k => by simp only [inst]; exact insts_le l k
  | .tup l, k => by simp only [inst]; exact insts_le l k
theorem insts_le : ∀ (l : List RV) (k : Nat), k ≤ (insts k l).2.2
  | [], k => Nat.le_refl _
  | r :: l, k => by
    simp only [insts]
    exact Nat.le_trans (inst_le r k) (insts_le l _)
end
end
end Go.Eng
