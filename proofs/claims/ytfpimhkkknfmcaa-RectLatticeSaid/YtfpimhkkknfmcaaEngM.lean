import Derived.Test.YtfpimhkkknfmcaaEngL
namespace Go.Eng
open Go.RowKit

/-! ### One operation; a region -/

def opV (P : Program) (fz : Bool) (o : Oper) (g : Bool) (σ : St) : Option Out :=
  match o.op with
  | .move x => some ⟨opnd σ.e x, [], True, True⟩
  | .assign x => some ⟨opnd σ.e x, [], True, True⟩
  | .pick c x y => vPick g (opnd σ.e c) (opnd σ.e x) (opnd σ.e y)
  | .alloc T => match o.dst with
    | some d => vAlloc P d T σ
    | none => none
  | .box T x => match o.dst with
    | some d => vBox d T g σ (opnd σ.e x)
    | none => none
  | .build T ps => vBuild P T g (partsA σ.e ps)
  | .buildSlice T len ps => match o.dst with
    | some d => vBuildS P fz d T len g σ (partsA σ.e ps)
    | none => none
  | .load T x => vLoad P T g σ.h (opnd σ.e x)
  | .store T x y => vStore P T g σ.h (opnd σ.e x) (opnd σ.e y)
  | .binOp op T x y _ => vBin P op T g (opnd σ.e x) (opnd σ.e y)
  | .unOp op _ x => vUn op g (opnd σ.e x)
  | .convert s t x => vConv P s t g (opnd σ.e x)
  | .makeSlice T x y => match o.dst with
    | some d => vMake P fz d T g σ (opnd σ.e x) (opnd σ.e y)
    | none => none
  | .slice T x lo hi none => vSlice P T g (opnd σ.e x) (lo.map (opnd σ.e)) (hi.map (opnd σ.e))
  | .fieldAddr T x f => vFld P T g (opnd σ.e x) f
  | .indexAddr T x y => vIdx P T g (opnd σ.e x) (opnd σ.e y)
  | .extract x i => vExtr g (opnd σ.e x) i
  | .call ⟨.builtin .len, as, ts⟩ => match as.toList, ts.toList with
    | [x], [T] => vLen P T g σ.h (opnd σ.e x)
    | _, _ => none
  | .call ⟨.builtin .min, as, _⟩ => vMin g (as.toList.map (opnd σ.e))
  | .call ⟨.builtin .max, as, _⟩ => vMax g (as.toList.map (opnd σ.e))
  | .call ⟨.builtin .append, as, ts⟩ => match as.toList, ts.toList, o.dst with
    | [x, y], [T, T'], some d => bif T == T' then vApp P d T g σ (opnd σ.e x) (opnd σ.e y) else none
    | _, _, _ => none
  | .index T x y => vIndex P T g (opnd σ.e x) (opnd σ.e y)
  | _ => none

/-- A call of a function of the program's: its number and operands. -/
def callOf (o : Oper) : Option (FuncId × List Operand) :=
  match o.op with
  | .call ⟨.value (.func f), as, _⟩ => some (f, as.toList)
  | _ => none

/-- Sides and knowledge, the last one first. -/
abbrev It := Bool × Prop
def fin : List It → Prop → Prop
  | [], r => r
  | (true, p) :: l, r => fin l (p ∧ r)
  | (false, p) :: l, r => fin l (p → r)

structure Rn where
  σ : St
  its : List It

def gb : AV → Option (Bool × Bool)
  | .dat (.b c) => some (true, c)
  | .gd g x => match gb x with
    | some (v, c) => some (g && v, c)
    | none => none
  | _ => none

/-- The guard of an operation. -/
def gval (L : List Oper) (e : List (Nat × AV)) (j : Nat) (want : Bool) : Option Bool :=
  match L[j]? with
  | some oj => match oj.dst with
    | some s => match gb (get e s) with
      | some (v, c) => some (v && (c == want))
      | none => none
    | none => none
  | none => none

def hg (g : Bool) : Hp → Hp
  | [] => []
  | (k, some (b, x)) :: l => (k, some (b && g, x)) :: hg g l
  | (k, none) :: l => (k, none) :: hg g l

def putA (d : Option Nat) (a : AV) (e : List (Nat × AV)) : List (Nat × AV) := match d with
  | some d => (d, a) :: e
  | none => e
def inB (n : Nat) (d : Option Nat) : Bool := match d with
  | some d => decide (d < n)
  | none => true

/-- The operation's outcome. -/
def outOf (P : Program) (Γ : FuncId → List D → RV) (fz : List Nat) (o : Oper) (g : Bool) (σ : St) : Option Out :=
  match callOf o with
  | some (f, as) => match o.dst with
    | some d => bif isFn P f then vCall P Γ (fz.contains d) d f g σ (as.map (opnd σ.e)) else none
    | none => none
  | none => opV P (match o.dst with | some d => fz.contains d | none => false) o g σ

def stepS (P : Program) (Γ : FuncId → List D → RV) (n : Nat) (L : List Oper) (fz : List Nat) (o : Oper) (r : Rn) : Option Rn :=
  bif inB n o.dst then (match o.guard with
    | none => match outOf P Γ fz o true r.σ with
      | some out => some ⟨⟨putA o.dst out.av r.σ.e, out.hp ++ r.σ.h⟩, (false, out.know) :: (true, out.side) :: r.its⟩
      | none => none
    | some (j, want) => match gval L r.σ.e j want with
      | some g => match outOf P Γ fz o g r.σ with
        | some out => some ⟨⟨putA o.dst (.gd g out.av) r.σ.e, hg g out.hp ++ r.σ.h⟩, (false, g = true → out.know) :: (true, g = true → out.side) :: r.its⟩
        | none => none
      | none => none) else none

def runOps (P : Program) (Γ : FuncId → List D → RV) (n : Nat) (L : List Oper) (fz : List Nat) : List Oper → Option Rn → Option Rn
  | _, none => none
  | [], some r => some r
  | o :: os, some r => runOps P Γ n L fz os (stepS P Γ n L fz o r)

def Hold : Option Rn → (St → Prop) → Prop
  | none, _ => False
  | some r, K => fin r.its (K r.σ)

section
variable {C : Ctx} {σ : St} {o : Oper} {g : Bool}

theorem fin_mono : ∀ {l : List It} {R R' : Prop}, (R → R') → fin l R → fin l R'
  | [], _, _, h, hr => h hr
  | (true, p) :: l, R, R', h, hr => fin_mono (l := l) (R := p ∧ R) (R' := p ∧ R') (fun x => ⟨x.1, h x.2⟩) hr
  | (false, p) :: l, R, R', h, hr => fin_mono (l := l) (R := p → R) (R' := p → R') (fun x y => h (x y)) hr

theorem arr_one {α : Type} {as : Array α} {l : List α} (h : as.toList = l) : as = l.toArray := by rw [← h]

theorem opV_snd {fz : Bool} {out : Out} (h : opV C.P fz o g σ = some out) : Snd C o g σ out := by
  unfold opV at h
  split at h
  · rename_i x ho
    simp only [Option.some.injEq] at h; subst h
    exact snd_move (.inl ho)
  · rename_i x ho
    simp only [Option.some.injEq] at h; subst h
    exact snd_move (.inr ho)
  · rename_i c x y ho; exact snd_pick ho h
  · rename_i T ho
    split at h
    · exact snd_alloc ho h
    · cases h
  · rename_i T x ho
    split at h
    · exact snd_box ho h
    · cases h
  · rename_i T ps ho; exact snd_build ho h
  · rename_i T len ps ho
    split at h
    · exact snd_buildS ho h
    · cases h
  · rename_i T x ho; exact snd_load ho h
  · rename_i T x y ho; exact snd_store ho h
  · rename_i op T x y T' ho; exact snd_bin ho h
  · rename_i op T x ho; exact snd_un ho h
  · rename_i s t x ho; exact snd_conv ho h
  · rename_i T x y ho
    split at h
    · exact snd_make ho h
    · cases h
  · rename_i T x lo hi ho; exact snd_slice ho h
  · rename_i T x f ho; exact snd_fld ho h
  · rename_i T x y ho; exact snd_idx ho h
  · rename_i x i ho; exact snd_extr ho h
  · rename_i as ts ho
    split at h
    · rename_i x T h1 h2
      rw [arr_one h1, arr_one h2] at ho
      exact snd_len ho h
    · cases h
  · rename_i as ts ho; exact snd_min ho h
  · rename_i as ts ho; exact snd_max ho h
  · rename_i as ts ho
    split at h
    · rename_i x y T T' d h1 h2 h3
      cases ht : T == T'
      · simp [ht] at h
      · simp only [ht, cond_true] at h
        simp only [beq_iff_eq] at ht; subst ht
        rw [arr_one h1, arr_one h2] at ho
        exact snd_app ho h
    · cases h
  · rename_i T x y ho; exact snd_index ho h
  · cases h

theorem outOf_snd {Γ : FuncId → List D → RV} {fz : List Nat} {out : Out} (h : outOf C.P Γ fz o g σ = some out) : SndW C o g σ out := by
  unfold outOf at h
  split at h
  · rename_i f as hc
    split at h
    · rename_i d hd
      cases hf : isFn C.P f
      · simp [hf] at h
      · simp only [hf, cond_true] at h
        unfold callOf at hc
        split at hc
        · rename_i f' as' ts ho
          simp only [Option.some.injEq, Prod.mk.injEq] at hc
          obtain ⟨rfl, rfl⟩ := hc
          exact snd_call ho hf h
        · cases hc
    · cases h
  · exact (opV_snd h).toW

theorem gb_rep {ok : Nat → Prop} {ι : Nat → Option (Nat × Nat)} {w : World} : ∀ {x : AV} {v : Value} {b c : Bool}, RepA ok ι w x v → gb x = some (b, c) → (b = true ∧ v = .bool c) ∨ (b = false ∧ v = undef)
  | .dat (.b c'), v, b, c, h, hg => by
    simp only [gb, Option.some.injEq, Prod.mk.injEq] at hg
    obtain ⟨rfl, rfl⟩ := hg
    simp only [RepA, RepD] at h
    exact .inl ⟨rfl, h⟩
  | .gd g x, v, b, c, h, hg => by
    simp only [gb] at hg
    split at hg
    · rename_i b' c' hx
      simp only [Option.some.injEq, Prod.mk.injEq] at hg
      obtain ⟨rfl, rfl⟩ := hg
      simp only [RepA] at h
      cases g with
      | true =>
        rcases gb_rep (h.1 rfl) hx with ⟨rfl, h'⟩ | ⟨rfl, h'⟩
        · exact .inl ⟨rfl, h'⟩
        · exact .inr ⟨rfl, h'⟩
      | false => exact .inr ⟨rfl, h.2 rfl⟩
    · cases hg
  | .dat (.i _), v, b, c, h, hg | .dat (.v _), v, b, c, h, hg | .dat (.agg _), v, b, c, h, hg | .dat (.sl ..), v, b, c, h, hg | .un, v, b, c, h, hg | .agg _, v, b, c, h, hg | .tup _, v, b, c, h, hg | .rp _, v, b, c, h, hg | .pt .., v, b, c, h, hg | .ep .., v, b, c, h, hg | .vw .., v, b, c, h, hg => by simp [gb] at hg

theorem gval_rep {ι : Nat → Option (Nat × Nat)} {a : Act} {w : World} (S : SimI C σ ι a w) {L : List Oper} {j : Nat} {want : Bool} (hgd : o.guard = some (j, want)) (h : gval L σ.e j want = some g) :
    Region.wanted o (yielded L.toArray a.tmps) = g := by
  unfold gval at h
  split at h
  · rename_i oj hj
    split at h
    · rename_i s hs
      split at h
      · rename_i v c hb
        simp only [Option.some.injEq] at h; subst h
        have hr := gb_rep (S.env s) hb
        have hy : yielded L.toArray a.tmps j = (match a.tmps[s]? with | some (.bool b) => some b | _ => none) := by
          simp only [yielded, List.getElem?_toArray, hj, Option.bind_some, hs]
          rfl
        simp only [Region.wanted, hgd, hy]
        rcases hr with ⟨rfl, hv⟩ | ⟨rfl, hv⟩
        · cases ht : a.tmps[s]? with
          | none => simp [Array.getD_eq_getD_getElem?, ht, undef] at hv
          | some u =>
            simp only [Array.getD_eq_getD_getElem?, ht, Option.getD_some] at hv
            subst hv
            cases c <;> cases want <;> rfl
        · cases ht : a.tmps[s]? with
          | none => cases want <;> rfl
          | some u =>
            simp only [Array.getD_eq_getD_getElem?, ht, Option.getD_some] at hv
            subst hv
            cases want <;> rfl
      · cases h
    · cases h
  · cases h

theorem hg_true : ∀ (h : Hp), hg true h = h
  | [] => rfl
  | (k, some (b, x)) :: l => by simp only [hg, Bool.and_true, hg_true l]
  | (k, none) :: l => by simp only [hg, hg_true l]

theorem hg_false {ι : Nat → Option (Nat × Nat)} {a : Act} {w : World} {e : List (Nat × AV)} : ∀ {h h0 : Hp}, SimI C ⟨e, h0⟩ ι a w → SimI C ⟨e, hg false h ++ h0⟩ ι a w
  | [], h0, S => S
  | (k, some (b, x)) :: l, h0, S => by
    simp only [hg, Bool.and_false, List.cons_append]
    exact SimI.shadow (σ := ⟨e, hg false l ++ h0⟩) (hg_false S) k x
  | (k, none) :: l, h0, S => by
    simp only [hg, List.cons_append]
    exact SimI.drop (σ := ⟨e, hg false l ++ h0⟩) (hg_false S) k

/-- A step of a region, in the world. -/
theorem step_sound {Γ : FuncId → List D → RV} {L : List Oper} {fz : List Nat} {r r' : Rn} (h : stepS C.P Γ C.n L fz o r = some r') :
    ∃ its, r'.its = its ++ r.its ∧ ∀ (S' : Prop), fin its S' →
      ∀ ι a w, SimI C r.σ ι a w → ∀ (K : Act → World → Prop) (Q : Exit → Act → World → Prop), (S' → ∀ ι' a' w', SimI C r'.σ ι' a' w' → K a' w') →
        if Region.wanted o (yielded L.toArray a.tmps) then o.wp C.P a w K Q else K (a.put o.dst undef) w := by
  unfold stepS at h
  cases hin : inB C.n o.dst
  · simp [hin] at h
  · simp only [hin, cond_true] at h
    have hput : ∀ {σ' : St} {ι' : Nat → Option (Nat × Nat)} {a : Act} {w' : World} {av : AV} {v : Value}, SimI C σ' ι' a w' → RepA (okOf σ'.h ι' w') ι' w' av v → SimI C ⟨putA o.dst av σ'.e, σ'.h⟩ ι' (a.put o.dst v) w' := by
      intro σ' ι' a w' av v S hr
      cases hd : o.dst with
      | none => simpa only [putA, Act.put] using S
      | some d =>
        simp only [putA]
        refine S.put ?_ hr
        simpa [hd, inB] using hin
    split at h
    · rename_i hgd
      split at h
      · rename_i out ho
        simp only [Option.some.injEq] at h; subst h
        refine ⟨[(false, out.know), (true, out.side)], rfl, fun S' hS ι a w S K Q hK => ?_⟩
        simp only [fin] at hS
        have hw : Region.wanted o (yielded L.toArray a.tmps) = true := by simp [Region.wanted, hgd]
        rw [if_pos hw]
        exact outOf_snd ho ι a w S rfl hS.1 K Q (fun v w' ι' hk S1 hr => hK (hS.2 hk) ι' _ w' (hput (σ' := ⟨r.σ.e, out.hp ++ r.σ.h⟩) S1 hr))
      · cases h
    · rename_i j want hgd
      split at h
      · rename_i g hgv
        split at h
        · rename_i out ho
          simp only [Option.some.injEq] at h; subst h
          refine ⟨[(false, g = true → out.know), (true, g = true → out.side)], rfl, fun S' hS ι a w S K Q hK => ?_⟩
          simp only [fin] at hS
          rw [gval_rep S hgd hgv]
          cases g with
          | true =>
            simp only [if_true]
            refine outOf_snd ho ι a w S rfl (hS.1 rfl) K Q (fun v w' ι' hk S1 hr => hK (hS.2 (fun _ => hk)) ι' _ w' ?_)
            rw [hg_true]
            exact hput (σ' := ⟨r.σ.e, out.hp ++ r.σ.h⟩) S1 (by simp only [RepA]; exact ⟨(fun _ => hr), (fun h => by cases h)⟩)
          | false =>
            simp only [Bool.false_eq_true, if_false]
            refine hK (hS.2 (fun h => by cases h)) ι _ w ?_
            exact hput (σ' := ⟨r.σ.e, hg false out.hp ++ r.σ.h⟩) (hg_false (e := r.σ.e) (h := out.hp) (h0 := r.σ.h) S) (by simp only [RepA]; exact ⟨(fun h => by cases h), (fun _ => trivial)⟩)
        · cases h
      · cases h

theorem fin_append : ∀ {l l' : List It} {R : Prop}, fin (l ++ l') R → fin l' (fin l R)
  | [], l', R, h => h
  | (true, p) :: l, l', R, h => by simp only [List.cons_append, fin] at h ⊢; exact fin_append h
  | (false, p) :: l, l', R, h => by simp only [List.cons_append, fin] at h ⊢; exact fin_append h

theorem runOps_none {P : Program} {Γ : FuncId → List D → RV} {n : Nat} {L : List Oper} {fz : List Nat} : ∀ {os : List Oper}, runOps P Γ n L fz os none = none
  | [] => rfl
  | _ :: _ => rfl

/-- A region in the order of the text. -/
theorem run_sound {Γ : FuncId → List D → RV} {L : List Oper} {fz : List Nat} {K : St → Prop} {Q : Exit → Act → World → Prop} (hQ : ∀ σ a w, K σ → Sim C σ a w → Q .normal a w) :
    ∀ (os : List Oper) (k : Nat) (r : Rn), L.drop k = os → Hold (runOps C.P Γ C.n L fz os (some r)) K → fin r.its (∀ ι a w, SimI C r.σ ι a w → wpOps C.P L.toArray Q (List.range' k os.length) a w)
  | [], k, r, hk, h => by
    simp only [runOps, Hold] at h
    refine fin_mono (fun hK ι a w S => ?_) h
    simp only [List.length_nil, List.range'_zero, wpOps]
    exact hQ _ a w hK ⟨ι, S⟩
  | o :: os, k, r, hk, h => by
    simp only [runOps] at h
    cases hs : stepS C.P Γ C.n L fz o r with
    | none => rw [hs, runOps_none] at h; exact h.elim
    | some r' =>
      rw [hs] at h
      obtain ⟨its, hi, hstep⟩ := step_sound hs
      have hk' : L.drop (k + 1) = os := by rw [← List.drop_drop, hk]; rfl
      have ho : L[k]? = some o := by
        have := congrArg (·[0]?) hk
        simpa using this
      have ih := run_sound hQ os (k + 1) r' hk' h
      rw [hi] at ih
      refine fin_mono (fun hS ι a w S => ?_) (fin_append ih)
      simp only [List.length_cons, List.range'_succ, wpOps, List.getElem?_toArray, ho]
      have h1 := hstep _ hS ι a w S (wpOps C.P L.toArray Q (List.range' (k + 1) os.length)) Q (fun hh ι' a' w' S' => hh ι' a' w' S')
      split
      · rename_i hw; rw [if_pos hw] at h1; exact .inl h1
      · rename_i hw; rw [if_neg hw] at h1; exact h1
end
end Go.Eng
