import Derived.Test.YtgkflbibpkkegaaGreatDoorEB
import Derived.Laws.Externs
set_option linter.unusedSimpArgs false
set_option linter.unusedVariables false
namespace Go.Eng
open Go.RowKit


def vFunc (fn : Go.Fn) (fs : List Operand) (l : List AV) : Option Out :=
  match fn, fs with
  | .func f, [] => some ⟨.cl f l, [], True, True⟩
  | _, _ => none

def opV (P : Program) (fz : Bool) (o : Oper) (g : Bool) (σ : St) : Option Out :=
  match o.op with
  | .move x => some ⟨opnd σ.e x, [], True, True⟩
  | .assign x => some ⟨opnd σ.e x, [], True, True⟩
  | .pick c x y => vPick g (opnd σ.e c) (opnd σ.e x) (opnd σ.e y)
  | .alloc T => match o.dst with
    | some d => vAlloc P d T σ
    | none => none
  | .box T x => match o.dst with
    | some d => vBox d T g σ (opnd σ.e x)
    | none => none
  | .build T ps => vBuild P T g (partsA σ.e ps)
  | .buildSlice T len ps => match o.dst with
    | some d => vBuildS P fz d T len g σ (partsA σ.e ps)
    | none => none
  | .load T x => vLoad P T g σ.h (opnd σ.e x)
  | .store T x y => vStore P T g σ.h (opnd σ.e x) (opnd σ.e y)
  | .binOp op T x y _ => vBin P op T g (opnd σ.e x) (opnd σ.e y)
  | .unOp op _ x => vUn op g (opnd σ.e x)
  | .convert s t x => vConv P s t g (opnd σ.e x)
  | .makeSlice T x y => match o.dst with
    | some d => vMake P fz d T g σ (opnd σ.e x) (opnd σ.e y)
    | none => none
  | .slice T x lo hi none => vSlice P T g (opnd σ.e x) (lo.map (opnd σ.e)) (hi.map (opnd σ.e))
  | .fieldAddr T x f => vFld P T g (opnd σ.e x) f
  | .indexAddr T x y => vIdx P T g (opnd σ.e x) (opnd σ.e y)
  | .extract x i => vExtr g (opnd σ.e x) i
  | .call ⟨.builtin .len, as, ts⟩ => match as.toList, ts.toList with
    | [x], [T] => vLen P T g σ.h (opnd σ.e x)
    | _, _ => none
  | .call ⟨.builtin .min, as, _⟩ => vMin g (as.toList.map (opnd σ.e))
  | .call ⟨.builtin .max, as, _⟩ => vMax g (as.toList.map (opnd σ.e))
  | .call ⟨.builtin .append, as, ts⟩ => match as.toList, ts.toList, o.dst with
    | [x, y], [T, T'], some d => bif T == T' then vApp P d T g σ (opnd σ.e x) (opnd σ.e y) else none
    | _, _, _ => none
  | .index T x y => vIndex P T g (opnd σ.e x) (opnd σ.e y)
  | .nilCheck x => vNil g (opnd σ.e x)
  | .field T x f => vFieldV P T g (opnd σ.e x) f
  | .makeFunc fn fs cs => vFunc fn fs.toList (cs.toList.map (opnd σ.e))
  | _ => none

def callOf (o : Oper) : Option (FuncId × List Operand) :=
  match o.op with
  | .call ⟨.value (.func f), as, _⟩ => some (f, as.toList)
  | _ => none

def cloOf (e : List (Nat × AV)) (o : Oper) : Option (FuncId × List Operand × Nat × List AV) :=
  match o.op with
  | .call ⟨.value (.tmp t), as, _⟩ => match sp (get e t) with
    | .cl f l => some (f, as.toList, t, l)
    | .dat (.v (.func (.func f) fs cs)) => match fs.toList, cs.toList with
      | [], [] => some (f, as.toList, t, [])
      | _, _ => none
    | _ => none
  | _ => none

abbrev It := Bool × Prop
def fin : List It → Prop → Prop
  | [], r => r
  | (true, p) :: l, r => fin l (p ∧ r)
  | (false, p) :: l, r => fin l (p → r)

structure Rn where
  σ : St
  its : List It

def gb : AV → Option (Bool × Bool)
  | .dat (.b c) => some (true, c)
  | .gd g x => match gb x with
    | some (v, c) => some (g && v, c)
    | none => none
  | _ => none

def gval (L : List Oper) (e : List (Nat × AV)) (j : Nat) (want : Bool) : Option Bool :=
  match L[j]? with
  | some oj => match oj.dst with
    | some s => match gb (get e s) with
      | some (v, c) => some (v && (c == want))
      | none => none
    | none => none
  | none => none

def hg (g : Bool) : Hp → Hp
  | [] => []
  | (k, some (b, x)) :: l => (k, some (b && g, x)) :: hg g l
  | (k, none) :: l => (k, none) :: hg g l

def putA (d : Option Nat) (a : AV) (e : List (Nat × AV)) : List (Nat × AV) := match d with
  | some d => (d, a) :: e
  | none => e
def inB (n : Nat) (d : Option Nat) : Bool := match d with
  | some d => decide (d < n)
  | none => true

def IsAdd (P : Program) (f : FuncId) : Prop := ∃ fn : Func, P.funcs[f]? = some fn ∧ (fn.name == "runtime.NumGoroutine") = false ∧ fn.body.isNone = true ∧ Extern.findNext fn = none ∧ Extern.find fn = some add64Entry
def vExt (P : Program) (f : FuncId) (g : Bool) (as : List AV) : Option Out :=
  match as with
  | [x, y, c] => match isI (sp x), isI (sp y), isI (sp c) with
    | some (.u64, m), some (.u64, n), some (.u64, k) => some ⟨.tup [.dat (.v (.int .u64 ((m + n + k) % 18446744073709551616))), .dat (.v (.int .u64 ((m + n + k) / 18446744073709551616)))], [], pk g x ∧ pk g y ∧ pk g c ∧ 0 ≤ m ∧ 0 ≤ n ∧ 0 ≤ k ∧ k ≤ 1 ∧ IsAdd P f, True⟩
    | _, _, _ => none
  | _ => none

def outOf (P : Program) (Γ : FuncId → List D → RV) (fz : List Nat) (o : Oper) (g : Bool) (σ : St) : Option Out :=
  match callOf o with
  | some (f, as) => match o.dst with
    | some d => bif isFn P f then vCall P Γ (fz.contains d) d f g σ (as.map (opnd σ.e)) else vExt P f g (as.map (opnd σ.e))
    | none => none
  | none => match cloOf σ.e o with
    | some (f, as, t, l) => match o.dst with
      | some d => bif isFn P f then addS (pk g (get σ.e t)) (vCall P Γ (fz.contains d) d f g σ (as.map (opnd σ.e) ++ l)) else none
      | none => none
    | none => opV P (match o.dst with | some d => fz.contains d | none => false) o g σ

def stepS (P : Program) (Γ : FuncId → List D → RV) (n : Nat) (L : List Oper) (fz : List Nat) (o : Oper) (r : Rn) : Option Rn :=
  bif inB n o.dst then (match o.guard with
    | none => match outOf P Γ fz o true r.σ with
      | some out => some ⟨⟨putA o.dst out.av r.σ.e, out.hp ++ r.σ.h⟩, (false, out.know) :: (true, out.side) :: r.its⟩
      | none => none
    | some (j, want) => match gval L r.σ.e j want with
      | some g => match outOf P Γ fz o g r.σ with
        | some out => some ⟨⟨putA o.dst (.gd g out.av) r.σ.e, hg g out.hp ++ r.σ.h⟩, (false, g = true → out.know) :: (true, g = true → out.side) :: r.its⟩
        | none => none
      | none => none) else none

def runOps (P : Program) (Γ : FuncId → List D → RV) (n : Nat) (L : List Oper) (fz : List Nat) : List Oper → Option Rn → Option Rn
  | _, none => none
  | [], some r => some r
  | o :: os, some r => runOps P Γ n L fz os (stepS P Γ n L fz o r)

def Hold : Option Rn → (St → Prop) → Prop
  | none, _ => False
  | some r, K => fin r.its (K r.σ)

section
variable {C : Ctx} {σ : St} {o : Oper} {g : Bool}

theorem fin_mono : ∀ {l : List It} {R R' : Prop}, (R → R') → fin l R → fin l R'
  | [], _, _, h, hr => h hr
  | (true, p) :: l, R, R', h, hr => fin_mono (l := l) (R := p ∧ R) (R' := p ∧ R') (fun x => ⟨x.1, h x.2⟩) hr
  | (false, p) :: l, R, R', h, hr => fin_mono (l := l) (R := p → R) (R' := p → R') (fun x y => h (x y)) hr

theorem arr_one {α : Type} {as : Array α} {l : List α} (h : as.toList = l) : as = l.toArray := by rw [← h]

theorem opV_snd {fz : Bool} {out : Out} (h : opV C.P fz o g σ = some out) : Snd C o g σ out := by
  unfold opV at h
  split at h
  · rename_i x ho
    simp only [Option.some.injEq] at h; subst h
    exact snd_move (.inl ho)
  · rename_i x ho
    simp only [Option.some.injEq] at h; subst h
    exact snd_move (.inr ho)
  · rename_i c x y ho; exact snd_pick ho h
  · rename_i T ho
    split at h
    · exact snd_alloc ho h
    · cases h
  · rename_i T x ho
    split at h
    · exact snd_box ho h
    · cases h
  · rename_i T ps ho; exact snd_build ho h
  · rename_i T len ps ho
    split at h
    · exact snd_buildS ho h
    · cases h
  · rename_i T x ho; exact snd_load ho h
  · rename_i T x y ho; exact snd_store ho h
  · rename_i op T x y T' ho; exact snd_bin ho h
  · rename_i op T x ho; exact snd_un ho h
  · rename_i s t x ho; exact snd_conv ho h
  · rename_i T x y ho
    split at h
    · exact snd_make ho h
    · cases h
  · rename_i T x lo hi ho; exact snd_slice ho h
  · rename_i T x f ho; exact snd_fld ho h
  · rename_i T x y ho; exact snd_idx ho h
  · rename_i x i ho; exact snd_extr ho h
  · rename_i as ts ho
    split at h
    · rename_i x T h1 h2
      rw [arr_one h1, arr_one h2] at ho
      exact snd_len ho h
    · cases h
  · rename_i as ts ho; exact snd_min ho h
  · rename_i as ts ho; exact snd_max ho h
  · rename_i as ts ho
    split at h
    · rename_i x y T T' d h1 h2 h3
      cases ht : T == T'
      · simp [ht] at h
      · simp only [ht, cond_true] at h
        simp only [beq_iff_eq] at ht; subst ht
        rw [arr_one h1, arr_one h2] at ho
        exact snd_app ho h
    · cases h
  · rename_i T x y ho; exact snd_index ho h
  · rename_i x ho; exact snd_nil ho h
  · rename_i T x f ho; exact snd_fieldV ho h
  · rename_i fn fs cs ho
    unfold vFunc at h
    split at h
    · rename_i f hfs
      simp only [Option.some.injEq] at h; subst h
      have hfs : fs = #[] := by rw [← Array.toList_inj]; exact hfs
      subst hfs
      refine Snd.pure fun ι a w S hg hs => ?_
      refine ⟨.func (.func f) #[] (cs.map a.eval), by simp [execOp, ho, Instr.makeFunc], trivial, ?_⟩
      simp only [RepA]
      exact ⟨cs.toList.map a.eval, by rw [← Array.toList_map], opAs_rep S cs.toList⟩
    · cases h
  · cases h

theorem cloOf_some {e : List (Nat × AV)} {f t : Nat} {as : List Operand} {l : List AV} (h : cloOf e o = some (f, as, t, l)) : ∃ args ts, o.op = .call ⟨.value (.tmp t), args, ts⟩ ∧ args.toList = as ∧
    (sp (get e t) = .cl f l ∨ (l = [] ∧ ∃ fs cs : Array Value, sp (get e t) = .dat (.v (.func (.func f) fs cs)) ∧ fs.toList = [] ∧ cs.toList = [])) := by
  unfold cloOf at h
  split at h
  · rename_i t' args ts ho
    split at h
    · rename_i f' l' hv
      simp only [Option.some.injEq, Prod.mk.injEq] at h
      obtain ⟨rfl, rfl, rfl, rfl⟩ := h
      exact ⟨args, ts, ho, rfl, .inl hv⟩
    · rename_i f' fs cs hv
      split at h
      · rename_i h1 h2
        simp only [Option.some.injEq, Prod.mk.injEq] at h
        obtain ⟨rfl, rfl, rfl, rfl⟩ := h
        exact ⟨args, ts, ho, rfl, .inr ⟨rfl, fs, cs, hv, h1, h2⟩⟩
      · cases h
    · cases h
  · cases h

theorem snd_ext {f : Nat} {args : Array Operand} {ts : Array TypeId} {out : Out} (ho : o.op = .call ⟨.value (.func f), args, ts⟩) (h : vExt C.P f g (args.toList.map (opnd σ.e)) = some out) : Snd C o g σ out := by
  unfold vExt at h
  split at h
  · rename_i x y c has
    split at h
    · rename_i m n k e1 e2 e3
      simp only [Option.some.injEq] at h; subst h
      refine Snd.pure fun ι a w S hg hs => ?_
      obtain ⟨p1, p2, p3, h1, h2, h3, h4, fn, q1, q2, q3, q4, q5⟩ := hs
      have hr := opAs_rep S args.toList
      rw [has] at hr
      simp only [RepAs] at hr
      obtain ⟨v1, l1, r1, i1, _, v2, l2, rfl, i2, _, v3, l3, rfl, i3, _, rfl⟩ := hr
      have j1 := isI_rep (sp_rep hg p1 i1) e1
      have j2 := isI_rep (sp_rep hg p2 i2) e2
      have j3 := isI_rep (sp_rep hg p3 i3) e3
      subst j1 j2 j3
      have ha : args.map a.eval = #[.int .u64 m, .int .u64 n, .int .u64 k] := by
        rw [← Array.toList_inj, Array.toList_map, r1]
      refine ⟨.tuple #[.int .u64 ((m + n + k) % 18446744073709551616), .int .u64 ((m + n + k) / 18446744073709551616)], ?_, trivial, ?_⟩
      · simp only [execOp, ho, resolve, Act.eval, Deferred.ofValue, invoke, ha, Sem.run_bind, Sem.run_pure, Result.andThen_ok, Array.empty_append, Array.append_empty]
        rw [run_callFunc_extern q1 q2 q3 q4 q5, run_add64 m n k h1 h2 h3 h4]
        rfl
      · simp only [RepA, RepAs]
        exact ⟨[_, _], rfl, _, _, rfl, (by simp only [RepD]), (fun h => absurd h (by decide)), _, _, rfl, (by simp only [RepD]), (fun h => absurd h (by decide)), rfl⟩
    · cases h
  · cases h

theorem outOf_snd {Γ : FuncId → List D → RV} {fz : List Nat} {out : Out} (h : outOf C.P Γ fz o g σ = some out) : SndW C o g σ out := by
  unfold outOf at h
  split at h
  · rename_i f as hc
    split at h
    · rename_i d hd
      unfold callOf at hc
      split at hc
      · rename_i f' as' ts ho
        simp only [Option.some.injEq, Prod.mk.injEq] at hc
        obtain ⟨rfl, rfl⟩ := hc
        cases hf : isFn C.P f'
        · simp only [hf, cond_false] at h
          exact (snd_ext ho h).toW
        · simp only [hf, cond_true] at h
          exact snd_call ho hf h
      · cases hc
    · cases h
  · split at h
    · rename_i f as t l hc
      obtain ⟨args, ts, ho, rfl, hv⟩ := cloOf_some hc
      split at h
      · rename_i d hd
        cases hf : isFn C.P f
        · simp [hf] at h
        · simp only [hf, cond_true] at h
          exact snd_clo ho hf hv rfl h
      · cases h
    · exact (opV_snd h).toW

theorem gb_rep {ok : Nat → Prop} {ι : Nat → Option (Nat × Nat)} {w : World} : ∀ {x : AV} {v : Value} {b c : Bool}, RepA ok ι w x v → gb x = some (b, c) → (b = true ∧ v = .bool c) ∨ (b = false ∧ v = undef)
  | .dat (.b c'), v, b, c, h, hg => by
    simp only [gb, Option.some.injEq, Prod.mk.injEq] at hg
    obtain ⟨rfl, rfl⟩ := hg
    simp only [RepA, RepD] at h
    exact .inl ⟨rfl, h⟩
  | .gd g x, v, b, c, h, hg => by
    simp only [gb] at hg
    split at hg
    · rename_i b' c' hx
      simp only [Option.some.injEq, Prod.mk.injEq] at hg
      obtain ⟨rfl, rfl⟩ := hg
      simp only [RepA] at h
      cases g with
      | true =>
        rcases gb_rep (h.1 rfl) hx with ⟨rfl, h'⟩ | ⟨rfl, h'⟩
        · exact .inl ⟨rfl, h'⟩
        · exact .inr ⟨rfl, h'⟩
      | false => exact .inr ⟨rfl, h.2 rfl⟩
    · cases hg
  | .dat (.i _), v, b, c, h, hg | .dat (.v _), v, b, c, h, hg | .dat (.agg _), v, b, c, h, hg | .dat (.sl ..), v, b, c, h, hg | .dat (.bx ..), v, b, c, h, hg | .un, v, b, c, h, hg | .agg _, v, b, c, h, hg | .tup _, v, b, c, h, hg | .rp _, v, b, c, h, hg | .pt .., v, b, c, h, hg | .ep .., v, b, c, h, hg | .vw .., v, b, c, h, hg | .cl .., v, b, c, h, hg | .mp .., v, b, c, h, hg => by simp [gb] at hg

theorem gval_rep {ι : Nat → Option (Nat × Nat)} {a : Act} {w : World} (S : SimI C σ ι a w) {L : List Oper} {j : Nat} {want : Bool} (hgd : o.guard = some (j, want)) (h : gval L σ.e j want = some g) :
    Region.wanted o (yielded L.toArray a.tmps) = g := by
  unfold gval at h
  split at h
  · rename_i oj hj
    split at h
    · rename_i s hs
      split at h
      · rename_i v c hb
        simp only [Option.some.injEq] at h; subst h
        have hr := gb_rep (S.env s) hb
        have hy : yielded L.toArray a.tmps j = (match a.tmps[s]? with | some (.bool b) => some b | _ => none) := by
          simp only [yielded, List.getElem?_toArray, hj, Option.bind_some, hs]
          rfl
        simp only [Region.wanted, hgd, hy]
        rcases hr with ⟨rfl, hv⟩ | ⟨rfl, hv⟩
        · cases ht : a.tmps[s]? with
          | none => simp [Array.getD_eq_getD_getElem?, ht, undef] at hv
          | some u =>
            simp only [Array.getD_eq_getD_getElem?, ht, Option.getD_some] at hv
            subst hv
            cases c <;> cases want <;> rfl
        · cases ht : a.tmps[s]? with
          | none => cases want <;> rfl
          | some u =>
            simp only [Array.getD_eq_getD_getElem?, ht, Option.getD_some] at hv
            subst hv
            cases want <;> rfl
      · cases h
    · cases h
  · cases h

theorem hg_true : ∀ (h : Hp), hg true h = h
  | [] => rfl
  | (k, some (b, x)) :: l => by simp only [hg, Bool.and_true, hg_true l]
  | (k, none) :: l => by simp only [hg, hg_true l]

theorem hg_false {ι : Nat → Option (Nat × Nat)} {a : Act} {w : World} {e : List (Nat × AV)} : ∀ {h h0 : Hp}, SimI C ⟨e, h0⟩ ι a w → SimI C ⟨e, hg false h ++ h0⟩ ι a w
  | [], h0, S => S
  | (k, some (b, x)) :: l, h0, S => by
    simp only [hg, Bool.and_false, List.cons_append]
    exact SimI.shadow (σ := ⟨e, hg false l ++ h0⟩) (hg_false S) k x
  | (k, none) :: l, h0, S => by
    simp only [hg, List.cons_append]
    exact SimI.drop (σ := ⟨e, hg false l ++ h0⟩) (hg_false S) k

theorem step_sound {Γ : FuncId → List D → RV} {L : List Oper} {fz : List Nat} {r r' : Rn} (h : stepS C.P Γ C.n L fz o r = some r') :
    ∃ its, r'.its = its ++ r.its ∧ ∀ (S' : Prop), fin its S' →
      ∀ ι a w, SimI C r.σ ι a w → ∀ (K : Act → World → Prop) (Q : Exit → Act → World → Prop), (S' → ∀ ι' a' w', SimI C r'.σ ι' a' w' → K a' w') →
        if Region.wanted o (yielded L.toArray a.tmps) then o.wp C.P a w K Q else K (a.put o.dst undef) w := by
  unfold stepS at h
  cases hin : inB C.n o.dst
  · simp [hin] at h
  · simp only [hin, cond_true] at h
    have hput : ∀ {σ' : St} {ι' : Nat → Option (Nat × Nat)} {a : Act} {w' : World} {av : AV} {v : Value}, SimI C σ' ι' a w' → RepA (okOf C.F σ'.h ι' w') ι' w' av v → SimI C ⟨putA o.dst av σ'.e, σ'.h⟩ ι' (a.put o.dst v) w' := by
      intro σ' ι' a w' av v S hr
      cases hd : o.dst with
      | none => simpa only [putA, Act.put] using S
      | some d =>
        simp only [putA]
        refine S.put ?_ hr
        simpa [hd, inB] using hin
    split at h
    · rename_i hgd
      split at h
      · rename_i out ho
        simp only [Option.some.injEq] at h; subst h
        refine ⟨[(false, out.know), (true, out.side)], rfl, fun S' hS ι a w S K Q hK => ?_⟩
        simp only [fin] at hS
        have hw : Region.wanted o (yielded L.toArray a.tmps) = true := by simp [Region.wanted, hgd]
        rw [if_pos hw]
        exact outOf_snd ho ι a w S rfl hS.1 K Q (fun v w' ι' hk S1 hr => hK (hS.2 hk) ι' _ w' (hput (σ' := ⟨r.σ.e, out.hp ++ r.σ.h⟩) S1 hr))
      · cases h
    · rename_i j want hgd
      split at h
      · rename_i g hgv
        split at h
        · rename_i out ho
          simp only [Option.some.injEq] at h; subst h
          refine ⟨[(false, g = true → out.know), (true, g = true → out.side)], rfl, fun S' hS ι a w S K Q hK => ?_⟩
          simp only [fin] at hS
          rw [gval_rep S hgd hgv]
          cases g with
          | true =>
            simp only [if_true]
            refine outOf_snd ho ι a w S rfl (hS.1 rfl) K Q (fun v w' ι' hk S1 hr => hK (hS.2 (fun _ => hk)) ι' _ w' ?_)
            rw [hg_true]
            exact hput (σ' := ⟨r.σ.e, out.hp ++ r.σ.h⟩) S1 (by simp only [RepA]; exact ⟨(fun _ => hr), (fun h => by cases h)⟩)
          | false =>
            simp only [Bool.false_eq_true, if_false]
            refine hK (hS.2 (fun h => by cases h)) ι _ w ?_
            exact hput (σ' := ⟨r.σ.e, hg false out.hp ++ r.σ.h⟩) (hg_false (e := r.σ.e) (h := out.hp) (h0 := r.σ.h) S) (by simp only [RepA]; exact ⟨(fun h => by cases h), (fun _ => trivial)⟩)
        · cases h
      · cases h

theorem fin_append : ∀ {l l' : List It} {R : Prop}, fin (l ++ l') R → fin l' (fin l R)
  | [], l', R, h => h
  | (true, p) :: l, l', R, h => by simp only [List.cons_append, fin] at h ⊢; exact fin_append h
  | (false, p) :: l, l', R, h => by simp only [List.cons_append, fin] at h ⊢; exact fin_append h

end
end Go.Eng

namespace Go.Eng
open Go.RowKit


def QQ (C : Ctx) (K R : St → Prop) (E : Nat → St → Prop) : Exit → Act → World → Prop
  | .normal, a, w => ∃ σ, K σ ∧ Sim C σ a w
  | .ret, a, w => ∃ σ, R σ ∧ Sim C σ a w
  | .exit i, a, w => ∃ σ, E i σ ∧ Sim C σ a w
  | _, _, _ => False

def WA (C : Ctx) (c : Code) (K R : St → Prop) (E : Nat → St → Prop) (σ : St) : Prop := ∀ a w, Sim C σ a w → c.wp C.P (QQ C K R E) a w

def Cnd (c : AV) (A B : Prop) : Prop := match c with
  | .dat (.b c) => (c = true → A) ∧ (c = false → B)
  | _ => False

def del (k : Nat) : Hp → Hp
  | [] => []
  | (j, x) :: l => bif j == k then del k l else (j, x) :: del k l
theorem geth_del {k : Nat} : ∀ {h : Hp} {j : Nat}, geth (del k h) j = if j = k then none else geth h j
  | [], j => by simp [del, geth]
  | (i, x) :: l, j => by
    have ih := geth_del (k := k) (h := l) (j := j)
    simp only [del]
    cases hi : i == k
    · simp only [cond_false, geth, ih]
      cases hij : i == j
      · rfl
      · simp only [cond_true]
        simp only [beq_iff_eq] at hij; subst hij
        have : ¬ i = k := by simpa using hi
        simp [this]
    · simp only [cond_true, ih, geth]
      simp only [beq_iff_eq] at hi; subst hi
      by_cases hj : j = i
      · simp [hj]
      · have : (i == j) = false := by simpa using fun e => hj e.symm
        simp [hj, this]
def nrm : Nat → Hp → Hp
  | 0, h => h
  | _, [] => []
  | n + 1, (k, some x) :: l => (k, some x) :: nrm n (del k l)
  | n + 1, (k, none) :: l => nrm n (del k l)
theorem geth_nrm : ∀ {n : Nat} {h : Hp} {j : Nat}, geth (nrm n h) j = geth h j
  | 0, h, j => by simp [nrm]
  | n + 1, [], j => by simp [nrm]
  | n + 1, (k, some x) :: l, j => by
    simp only [nrm, geth]
    cases hk : k == j
    · simp only [cond_false, geth_nrm, geth_del]
      have : ¬ j = k := by simp only [beq_eq_false_iff_ne] at hk; exact fun e => hk e.symm
      simp [this]
    · rfl
  | n + 1, (k, none) :: l, j => by
    simp only [nrm, geth]
    cases hk : k == j
    · simp only [cond_false, geth_nrm, geth_del]
      have : ¬ j = k := by simp only [beq_eq_false_iff_ne] at hk; exact fun e => hk e.symm
      simp [this]
    · simp only [cond_true, geth_nrm, geth_del]
      simp only [beq_iff_eq] at hk; subst hk
      simp

def gather (V : List Nat) (σ : St) : St := ⟨V.map fun k => (k, get σ.e k), nrm 100 σ.h⟩

section
variable {C : Ctx} {K R : St → Prop} {E : Nat → St → Prop} {σ : St}

theorem WA.mono {c : Code} {K' R' : St → Prop} {E' : Nat → St → Prop} (h : WA C c K R E σ) (hk : ∀ σ, K σ → K' σ) (hr : ∀ σ, R σ → R' σ) (he : ∀ i σ, E i σ → E' i σ) : WA C c K' R' E' σ := by
  intro a w S
  refine wp_mono (h a w S) fun e a w hq => ?_
  cases e with
  | normal => obtain ⟨σ, h1, h2⟩ := hq; exact ⟨σ, hk σ h1, h2⟩
  | ret => obtain ⟨σ, h1, h2⟩ := hq; exact ⟨σ, hr σ h1, h2⟩
  | exit i => obtain ⟨σ, h1, h2⟩ := hq; exact ⟨σ, he i σ h1, h2⟩
  | goto l => exact hq
  | panic ch => exact hq
  | outgrown => exact hq

theorem WA_seq {x y : Code} (h : WA C x (fun σ => WA C y K R E σ) R E σ) : WA C (.seq x y) K R E σ := by
  intro a w S
  refine wp_seq (wp_mono (h a w S) fun e a w hq => ?_)
  cases e with
  | normal => obtain ⟨σ, h1, h2⟩ := hq; exact h1 a w h2
  | ret => exact hq
  | exit i => exact hq
  | goto l => exact hq
  | panic ch => exact hq
  | outgrown => exact hq

theorem WA_cond {c : Operand} {x y : Code} (h : Cnd (opnd σ.e c) (WA C x K R E σ) (WA C y K R E σ)) : WA C (.cond c x y) K R E σ := by
  intro a w S
  obtain ⟨ι, SI⟩ := S
  unfold Cnd at h
  split at h
  · rename_i cc hc
    have hr := SI.opnd c
    rw [hc] at hr
    simp only [RepA, RepD] at hr
    exact wp_cond_split hr (fun ht => h.1 ht a w ⟨ι, SI⟩) (fun ht => h.2 ht a w ⟨ι, SI⟩)
  · exact h.elim

theorem WA_block {id : Nat} {c : Code} (h : WA C c K R (fun i σ => if i = id then K σ else E i σ) σ) : WA C (.block id c) K R E σ := by
  intro a w S
  refine wp_block (wp_mono (h a w S) fun e a w hq => ?_)
  cases e with
  | normal => exact hq
  | ret => exact hq
  | exit i =>
    obtain ⟨σ, h1, h2⟩ := hq
    simp only [Exit.inBlock]
    split
    · rename_i hi; rw [if_pos hi] at h1; exact ⟨σ, h1, h2⟩
    · rename_i hi; rw [if_neg hi] at h1; exact ⟨σ, h1, h2⟩
  | goto l => exact hq
  | panic ch => exact hq
  | outgrown => exact hq

theorem WA_exit {i : Nat} (h : E i σ) : WA C (.exit i) K R E σ := fun _ _ S => wp_exit ⟨σ, h, S⟩
theorem WA_ret (h : R σ) : WA C .ret K R E σ := fun _ _ S => wp_ret ⟨σ, h, S⟩
theorem WA_skip (h : K σ) : WA C .skip K R E σ := fun _ _ S => wp_skip ⟨σ, h, S⟩
theorem get_gather {e : List (Nat × AV)} {V : List Nat} {s : Nat} : get (V.map fun k => (k, get e k)) s = if s ∈ V then get e s else .un := by
  induction V with
  | nil => simp [get]
  | cons v V ih =>
    simp only [List.map_cons, get, List.mem_cons]
    by_cases h : v = s
    · subst h; simp
    · have : (v == s) = false := by simpa using h
      rw [this, ih]
      have h' : ¬ s = v := fun e => h e.symm
      simp [h']

theorem Sim.gather {a : Act} {w : World} (V : List Nat) (S : Sim C σ a w) : Sim C (gather V σ) a w := by
  obtain ⟨ι, S⟩ := S
  have S1 : SimI C ⟨V.map fun k => (k, get σ.e k), σ.h⟩ ι a w := by
    refine ⟨fun s => ?_, S.ent, S.inj, S.os, S.tape, S.output, S.size, S.old, S.def0, S.tms⟩
    simp only [get_gather]
    split
    · exact S.env s
    · simp only [RepA]
  exact ⟨ι, S1.hcongr fun k => geth_nrm⟩

theorem WA_loop {c : Code} {α : Type} (hd : α → St) (I : α → Prop) (μ : α → Nat) (h0 : ∃ x, I x ∧ ∀ a w, Sim C σ a w → Sim C (hd x) a w)
    (hr : ∀ x, I x → WA C c (fun σ' => ∃ x', I x' ∧ μ x' < μ x ∧ ∀ a w, Sim C σ' a w → Sim C (hd x') a w) R E (hd x)) : WA C (.loop c) K R E σ := by
  intro a w S
  obtain ⟨x0, i0, s0⟩ := h0
  have key : ∀ n x, μ x = n → I x → ∀ a w, Sim C (hd x) a w → ∀ (b : Frame) (k : List Item) (cs : List Frame), ∃ e a' w', QQ C K R E e a' w' ∧ Arrives C.P (lone (b.at a (.code c :: .inLoop c :: k)) cs w) b k cs e a' w' := by
    intro n
    induction n using Nat.strongRecOn with
    | _ n ih =>
      intro x hn hI a w S b k cs
      obtain ⟨e, a₁, w₁, hq, harr⟩ := hr x hI a w S b (.inLoop c :: k) cs
      cases e with
      | normal =>
        obtain ⟨σ', ⟨x', hI', hlt, hs⟩, S'⟩ := hq
        obtain ⟨e₂, a₂, w₂, hq₂, harr₂⟩ := ih (μ x') (hn ▸ hlt) x' rfl hI' a₁ w₁ (hs _ _ S') b k cs
        exact ⟨e₂, a₂, w₂, hq₂, .of_steps (Steps.trans harr (.one step_inLoop)) harr₂⟩
      | exit id => exact ⟨.exit id, a₁, w₁, hq, .pass (x := .inLoop c) rfl (fun _ _ => .inl (by simp)) harr⟩
      | goto l => exact hq.elim
      | ret => exact ⟨.ret, a₁, w₁, hq, .pass (x := .inLoop c) rfl (fun _ _ => .inl (by simp)) harr⟩
      | panic ch => exact hq.elim
      | outgrown => exact hq.elim
  intro b k cs
  obtain ⟨e, a', w', hq, harr⟩ := key _ x0 rfl i0 a w (s0 a w S) b k cs
  exact ⟨e, a', w', hq, .of_steps (.one step_loop) harr⟩

theorem WA.app {c : Code} (h : WA C c K R E σ) (a : Act) (w : World) (S : Sim C σ a w) : c.wp C.P (QQ C K R E) a w := h a w S

end

attribute [irreducible] WA


mutual
def retA (h : Hp) : AV → RV → Option (List Nat × Prop)
  | .dat (.v (.slice none 0 0)), .own _ _ l => some ([], l = [])
  | .dat (.agg ds), .agg rs => retDs h ds rs
  | .dat d, .dat d' => some ([], d = d')
  | .vw nm o m n, .own T n' l => match geth h nm with
    | some (g, .arr T' n'' l') => some ([nm], g = true ∧ o = 0 ∧ m = l'.length ∧ T' = T ∧ n = n' ∧ n'' = n' ∧ l' = l)
    | _ => none
  | .agg l, .agg rs => retAs h l rs
  | .pt nm o, .dat (.bx ds) => match geth h nm with
    | some (g, .box _ c) => match allDat (c.drop o) with
      | some ds' => some ([], g = true ∧ ds' = ds)
      | none => none
    | _ => none
  | .pt _ _, .dat .any => some ([], True)
  | _, _ => none
def retAs (h : Hp) : List AV → List RV → Option (List Nat × Prop)
  | [], [] => some ([], True)
  | a :: l, r :: rs => match retA h a r, retAs h l rs with
    | some (n1, p1), some (n2, p2) => some (n1 ++ n2, p1 ∧ p2)
    | _, _ => none
  | _, _ => none
def retDs (h : Hp) : List D → List RV → Option (List Nat × Prop)
  | [], [] => some ([], True)
  | .v (.slice none 0 0) :: l, .dat (.sl _ l') :: rs => match retDs h l rs with
    | some (n2, p2) => some (n2, l' = [] ∧ p2)
    | none => none
  | d :: l, .dat d' :: rs => match retDs h l rs with
    | some (n2, p2) => some (n2, d = d' ∧ p2)
    | none => none
  | .v (.slice none 0 0) :: l, .own _ _ l' :: rs => match retDs h l rs with
    | some (n2, p2) => some (n2, l' = [] ∧ p2)
    | none => none
  | _, _ => none
end

def resA (P : Program) (σ : St) : List ResultVar → Option (List AV × Prop)
  | [] => some ([], True)
  | .tmp t :: l => match resA P σ l with
    | some (as, p) => some (get σ.e t :: as, p)
    | none => none
  | .cell t T :: l => match vLoad P T true σ.h (get σ.e t), resA P σ l with
    | some out, some (as, p) => some (out.av :: as, out.side ∧ p)
    | _, _ => none

def Ret (P : Program) (rv : List ResultVar) (r : RV) (σ : St) : Prop :=
  match resA P σ rv with
  | none => False
  | some (as, p) => p ∧ match as, r with
    | [x], r => match retA σ.h x r with
      | some (n, q) => n.Nodup ∧ q
      | none => False
    | as, .tup rs => match retAs σ.h as rs with
      | some (n, q) => n.Nodup ∧ q
      | none => False
    | _, _ => False

def parA (ds : List D) : List (Nat × AV) := ds.zipIdx.map fun p => (p.2, .dat p.1)

section
variable {C : Ctx} {σ : St} {ι : Nat → Option (Nat × Nat)} {a : Act} {w : World}

def okR (C : Ctx) (σ : St) (ι : Nat → Option (Nat × Nat)) (w : World) (b : Nat) : Prop :=
  b < w.heap.size ∧ ¬ C.F b ∧ ∀ nm T n l c, geth σ.h nm = some (true, .arr T n l) → ι nm ≠ some (b, c)
theorem okOf.toR {b : Nat} (h : okOf C.F σ.h ι w b) : okR C σ ι w b := ⟨h.1, h.2.2, fun nm _ _ _ c hx => h.2.1 nm _ c hx⟩

def blocks (ι : Nat → Option (Nat × Nat)) (l : List Nat) : List Nat := l.filterMap fun k => (ι k).map (·.1)

mutual
theorem retA_rep (S : SimI C σ ι a w) : ∀ (x : AV) (r : RV) (v : Value) (n : List Nat) (p : Prop), RepA (okOf C.F σ.h ι w) ι w x v → retA σ.h x r = some (n, p) → p →
    RepR (okR C σ ι w) w r v (blocks ι n) ∧ ∀ k ∈ n, ∃ T n l, geth σ.h k = some (true, .arr T n l)
  | x, r, v, n, p, h, hr, hp => by
    unfold retA at hr
    split at hr
    · simp only [Option.some.injEq, Prod.mk.injEq] at hr
      obtain ⟨rfl, rfl⟩ := hr
      simp only [RepA, RepD] at h
      exact ⟨by simp only [RepR]; exact .inl ⟨rfl, hp, h⟩, by simp⟩
    · rename_i ds rs
      simp only [RepA, RepD] at h
      obtain ⟨vs, rfl, h⟩ := h
      obtain ⟨h1, h2⟩ := retDs_rep S ds rs vs n p h hr hp
      exact ⟨by simp only [RepR]; exact ⟨vs, rfl, h1⟩, h2⟩
    · simp only [Option.some.injEq, Prod.mk.injEq] at hr
      obtain ⟨rfl, rfl⟩ := hr
      subst hp
      simp only [RepA] at h
      exact ⟨by simp only [RepR]; exact ⟨rfl, RepD.tr (fun _ hb => hb.toR) (fun _ _ => rfl) _ _ h⟩, by simp⟩
    · rename_i nm oo m n0 T n' l
      split at hr
      · rename_i g T' n'' l' hh
        simp only [Option.some.injEq, Prod.mk.injEq] at hr
        obtain ⟨rfl, rfl⟩ := hr
        obtain ⟨rfl, rfl, rfl, rfl, rfl, rfl, rfl⟩ := hp
        refine ⟨?_, fun k hk => by simp only [List.mem_singleton] at hk; subst hk; exact ⟨_, _, _, hh⟩⟩
        simp only [RepA] at h
        simp only [RepR]
        rcases h with ⟨hi, rfl, _, hm⟩ | ⟨b, c, hi, rfl, hle⟩
        · exact .inl ⟨by simp [blocks, hi], List.eq_nil_of_length_eq_zero hm, rfl⟩
        · rcases S.ent nm _ hh with ⟨h1, _⟩ | ⟨b', cap, cur, h1, h2, h3, h4, h5, h6, h7⟩
          · rw [hi] at h1; cases h1
          · rw [hi] at h1; simp only [Option.some.injEq, Prod.mk.injEq] at h1
            obtain ⟨rfl, rfl⟩ := h1
            exact .inr ⟨b, c, cur, by simp [blocks, hi], by simp, h3, h4, h5, h6, RepDss.tr (fun _ hb => hb.toR) (fun _ _ => rfl) _ _ _ h7⟩
      · cases hr
    · rename_i l rs
      simp only [RepA] at h
      obtain ⟨vs, rfl, h⟩ := h
      obtain ⟨h1, h2⟩ := retAs_rep S true l rs vs n p h hr hp
      exact ⟨by simp only [RepR]; exact ⟨vs, rfl, h1⟩, h2⟩
    · rename_i nm oo ds
      split at hr
      · rename_i g T c hh
        split at hr
        · rename_i ds' hds
          simp only [Option.some.injEq, Prod.mk.injEq] at hr
          obtain ⟨rfl, rfl⟩ := hr
          obtain ⟨rfl, rfl⟩ := hp
          simp only [RepA] at h
          obtain ⟨b, cc, hi, rfl⟩ := h
          obtain ⟨b', cap, cur, h1, h2, h3, h4⟩ := S.ent nm _ hh
          rw [hi] at h1; simp only [Option.some.injEq, Prod.mk.injEq] at h1
          obtain ⟨rfl, rfl⟩ := h1
          have h5 := RepAs_drop oo h4
          rw [allDat_eq hds] at h5
          refine ⟨?_, by simp⟩
          simp only [RepR, RepD]
          refine ⟨rfl, b, oo, _, rfl, ⟨(Array.getElem?_eq_some_iff.1 h3).1, ?_, fun nm' T' n' l' c' hx hi' => ?_⟩, RepDs.tr (fun _ hb => hb.toR) (fun _ _ => rfl) _ _ (RepAs_dat.1 h5), cellsAt_block h3⟩
          · exact C.own_F h2.1
          · refine S.inj nm nm' _ _ b cc c' hh hx ?_ hi hi'
            rintro rfl
            rw [hh] at hx; cases hx
        · cases hr
      · cases hr
    · simp only [Option.some.injEq, Prod.mk.injEq] at hr
      obtain ⟨rfl, rfl⟩ := hr
      exact ⟨by simp [RepR, RepD, blocks], by simp⟩
    · cases hr
  termination_by x => SizeOf.sizeOf x
theorem retAs_rep (S : SimI C σ ι a w) (one : Bool) : ∀ (l : List AV) (rs : List RV) (vs : List Value) (n : List Nat) (p : Prop), RepAs (okOf C.F σ.h ι w) ι w one l vs → retAs σ.h l rs = some (n, p) → p →
    RepRs (okR C σ ι w) w one rs vs (blocks ι n) ∧ ∀ k ∈ n, ∃ T n l, geth σ.h k = some (true, .arr T n l)
  | [], [], vs, n, p, h, hr, hp => by
    simp only [retAs, Option.some.injEq, Prod.mk.injEq] at hr
    obtain ⟨rfl, _⟩ := hr
    simp only [RepAs] at h
    exact ⟨by simp [RepRs, h, blocks], by simp⟩
  | x :: l, r :: rs, vs, n, p, h, hr, hp => by
    simp only [retAs] at hr
    split at hr
    · rename_i n1 p1 n2 p2 h1 h2
      simp only [Option.some.injEq, Prod.mk.injEq] at hr
      obtain ⟨rfl, rfl⟩ := hr
      simp only [RepAs] at h
      obtain ⟨v, vs', rfl, h3, h4, h5⟩ := h
      obtain ⟨q1, q2⟩ := retA_rep S x r v n1 p1 h3 h1 hp.1
      obtain ⟨q3, q4⟩ := retAs_rep S one l rs vs' n2 p2 h5 h2 hp.2
      refine ⟨?_, fun k hk => ?_⟩
      · simp only [RepRs]
        exact ⟨v, vs', blocks ι n1, blocks ι n2, rfl, by simp [blocks], q1, h4, q3⟩
      · simp only [List.mem_append] at hk
        rcases hk with hk | hk
        · exact q2 k hk
        · exact q4 k hk
    · cases hr
  | [], _ :: _, vs, n, p, h, hr, hp => by simp [retAs] at hr
  | _ :: _, [], vs, n, p, h, hr, hp => by simp [retAs] at hr
  termination_by l => SizeOf.sizeOf l
theorem retDs_rep (S : SimI C σ ι a w) : ∀ (l : List D) (rs : List RV) (vs : List Value) (n : List Nat) (p : Prop), RepDs (okOf C.F σ.h ι w) w l vs → retDs σ.h l rs = some (n, p) → p →
    RepRs (okR C σ ι w) w true rs vs (blocks ι n) ∧ ∀ k ∈ n, ∃ T n l, geth σ.h k = some (true, .arr T n l)
  | l, rs, vs, n, p, h, hr, hp => by
    unfold retDs at hr
    split at hr
    · simp only [Option.some.injEq, Prod.mk.injEq] at hr
      obtain ⟨rfl, _⟩ := hr
      simp only [RepDs] at h
      exact ⟨by simp [RepRs, h, blocks], by simp⟩
    · rename_i l m0 l' rs
      split at hr
      · rename_i n2 p2 h2
        simp only [Option.some.injEq, Prod.mk.injEq] at hr
        obtain ⟨rfl, rfl⟩ := hr
        obtain ⟨rfl, hp⟩ := hp
        simp only [RepDs, RepD] at h
        obtain ⟨v, vs', rfl, rfl, h4, h5⟩ := h
        obtain ⟨q3, q4⟩ := retDs_rep S l rs vs' n2 p2 h5 h2 hp
        refine ⟨?_, q4⟩
        simp only [RepRs, RepR, RepD]
        exact ⟨_, vs', [], blocks ι n2, rfl, by simp, ⟨rfl, by simp, .inl ⟨trivial, none, 0, rfl⟩⟩, fun _ => h4, q3⟩
      · cases hr
    · rename_i d l d' rs _
      split at hr
      · rename_i n2 p2 h2
        simp only [Option.some.injEq, Prod.mk.injEq] at hr
        obtain ⟨rfl, rfl⟩ := hr
        obtain ⟨rfl, hp⟩ := hp
        simp only [RepDs] at h
        obtain ⟨v, vs', rfl, h3, h4, h5⟩ := h
        obtain ⟨q3, q4⟩ := retDs_rep S l rs vs' n2 p2 h5 h2 hp
        refine ⟨?_, q4⟩
        simp only [RepRs, RepR]
        exact ⟨v, vs', [], blocks ι n2, rfl, by simp, ⟨rfl, RepD.tr (fun _ hb => hb.toR) (fun _ _ => rfl) _ _ h3⟩, fun _ => h4, q3⟩
      · cases hr
    · rename_i l T n' l' rs
      split at hr
      · rename_i n2 p2 h2
        simp only [Option.some.injEq, Prod.mk.injEq] at hr
        obtain ⟨rfl, rfl⟩ := hr
        obtain ⟨rfl, hp⟩ := hp
        simp only [RepDs, RepD] at h
        obtain ⟨v, vs', rfl, rfl, h4, h5⟩ := h
        obtain ⟨q3, q4⟩ := retDs_rep S l rs vs' n2 p2 h5 h2 hp
        refine ⟨?_, q4⟩
        simp only [RepRs, RepR]
        exact ⟨_, vs', [], blocks ι n2, rfl, by simp, by simp, fun _ => h4, q3⟩
      · cases hr
    · cases hr
  termination_by l => SizeOf.sizeOf l
end
end
end Go.Eng

namespace Go.Eng
open Go.RowKit

section
variable {C : Ctx} {σ : St} {g : Bool} {ι : Nat → Option (Nat × Nat)} {a : Act} {w : World}

theorem vLoad_rep {T : Nat} {x : AV} {vx : Value} {out : Out} (h : vLoad C.P T g σ.h x = some out) (S : SimI C σ ι a w) (hg : g = true) (hs : out.side) (hr : RepA (okOf C.F σ.h ι w) ι w x vx) :
    ∃ p v, vx = .pointer (some p) ∧ (loadVar T p).run C.P w = .ok v w ∧ RepA (okOf C.F σ.h ι w) ι w out.av v := by
  unfold vLoad at h
  split at h
  · cases h
  · rename_i sz ag ht
    split at h
    · rename_i nm off hx
      split at h
      · rename_i g' T' c hh
        split at h
        · rename_i r hrd
          simp only [Option.some.injEq] at h; subst h
          have ex := sp_rep hg hs.1 hr
          rw [hx] at ex
          simp only [RepA] at ex
          obtain ⟨b, cc, hi, ex⟩ := ex
          obtain ⟨b', cap, cur, h1, h2, h3, h4⟩ := S.box hh (hs.2 hg)
          rw [hi] at h1; simp only [Option.some.injEq, Prod.mk.injEq] at h1
          obtain ⟨rfl, rfl⟩ := h1
          obtain ⟨v, hv, hrep⟩ := rdA_load (b := b) (o := off) ht (RepAs_drop off h4) (cellsAt_block h3) hrd
          exact ⟨_, v, ex, hv, hrep⟩
        · cases h
      · cases h
    · rename_i l hx
      split at h
      · rename_i r hrd
        simp only [Option.some.injEq] at h; subst h
        have ex := sp_rep hg hs hr
        rw [hx] at ex
        simp only [RepA] at ex
        obtain ⟨b, off, vs, ex, hb, hrs, hc⟩ := ex
        obtain ⟨v, hv, hrep⟩ := rdD_load (ι := ι) ht hrs hc hrd
        exact ⟨_, v, ex, hv, hrep⟩
      · cases h
    · rename_i nm k f n hx
      split at h
      · rename_i g' T' n' l hh
        split at h
        · rename_i r hrd
          cases hn : n == n'
          · simp [hn] at h
          · simp only [hn, cond_true, Option.some.injEq] at h; subst h
            simp only [beq_iff_eq] at hn; subst hn
            obtain ⟨p1, p2, hk⟩ := hs
            have ex := sp_rep hg p1 hr
            rw [hx] at ex
            simp only [RepA] at ex
            obtain ⟨b, cc, hi, ex⟩ := ex
            obtain ⟨b', cap, cur, h1, h2, h3, h4, h5, h6, h7⟩ := S.arr hh (p2 hg) (by omega)
            rw [hi] at h1; simp only [Option.some.injEq, Prod.mk.injEq] at h1
            obtain ⟨rfl, rfl⟩ := h1
            obtain ⟨q1, q2⟩ := RepDss_at k h7 (elt_some (P := C.P) (T := T') hk)
            have hc : cellsAt w b (k * n) (((cur.toList.take (l.length * n)).drop (k * n)).take n) := by
              have := cellsAt_take (k := n) (cellsAt_drop (k := k * n) (cellsAt_take (k := l.length * n) (by simpa using cellsAt_block (o := 0) h3)))
              simpa using this
            obtain ⟨v, hv, hrep⟩ := rdD_load (ι := ι) ht (RepDs_drop f q1) (cellsAt_drop (k := f) hc) hrd
            exact ⟨_, v, ex, hv, hrep⟩
        · cases h
      · cases h
    · rename_i l hx
      split at h
      · rename_i r hrd
        simp only [Option.some.injEq] at h; subst h
        have ex := sp_rep hg hs hr
        rw [hx] at ex
        simp only [RepA, RepD] at ex
        obtain ⟨b, off, vs, ex, hb, hrs, hc⟩ := ex
        obtain ⟨v, hv, hrep⟩ := rdD_load (ι := ι) ht hrs hc hrd
        exact ⟨_, v, ex, hv, hrep⟩
      · cases h
    · cases h

theorem resA_rep (S : SimI C σ ι a w) : ∀ (l : List ResultVar) (as : List AV) (p : Prop), resA C.P σ l = some (as, p) → p →
    ∃ vs, (l.mapM fun (x : ResultVar) => (match x with | .tmp t => pure (a.tmps.getD t undef) | .cell t T => do loadVar T (← asAddr (a.tmps.getD t undef)) : Sem Value)).run C.P w = .ok vs w ∧ RepAs (okOf C.F σ.h ι w) ι w false as vs
  | [], as, p, h, hp => by
    simp only [resA, Option.some.injEq, Prod.mk.injEq] at h
    obtain ⟨rfl, _⟩ := h
    exact ⟨[], by simp, by simp [RepAs]⟩
  | .tmp t :: l, as, p, h, hp => by
    simp only [resA] at h
    split at h
    · rename_i as' p' h1
      simp only [Option.some.injEq, Prod.mk.injEq] at h
      obtain ⟨rfl, rfl⟩ := h
      obtain ⟨vs, h2, h3⟩ := resA_rep S l as' p' h1 hp
      refine ⟨a.tmps.getD t undef :: vs, ?_, ?_⟩
      · simp only [List.mapM_cons, Sem.run_bind, Sem.run_pure, Result.andThen_ok, h2]
      · simp only [RepAs]
        exact ⟨_, vs, rfl, S.env t, (fun h => by cases h), h3⟩
    · cases h
  | .cell t T :: l, as, p, h, hp => by
    simp only [resA] at h
    split at h
    · rename_i out as' p' h0 h1
      simp only [Option.some.injEq, Prod.mk.injEq] at h
      obtain ⟨rfl, rfl⟩ := h
      obtain ⟨vs, h2, h3⟩ := resA_rep S l as' p' h1 hp.2
      obtain ⟨q, v, e1, e2, e3⟩ := vLoad_rep h0 S rfl hp.1 (S.env t)
      refine ⟨v :: vs, ?_, ?_⟩
      · have ha : (asAddr (a.tmps.getD t undef)).run C.P w = .ok q w := by rw [e1]; rfl
        simp only [List.mapM_cons, Sem.run_bind, ha, Sem.run_pure, Result.andThen_ok, e2, h2]
      · simp only [RepAs]
        exact ⟨_, vs, rfl, e3, (fun h => by cases h), h3⟩
    · cases h

theorem blocks_mem {b : Nat} {n : List Nat} (h : b ∈ blocks ι n) : ∃ k ∈ n, ∃ c, ι k = some (b, c) := by
  simp only [blocks, List.mem_filterMap, Option.map_eq_some_iff] at h
  obtain ⟨k, hk, ⟨b', c⟩, h1, rfl⟩ := h
  exact ⟨k, hk, c, h1⟩

theorem blocks_nodup (S : SimI C σ ι a w) : ∀ {n : List Nat}, n.Nodup → (∀ k ∈ n, ∃ y, geth σ.h k = some (true, y)) → (blocks ι n).Nodup
  | [], _, _ => by simp [blocks]
  | k :: n, hn, hl => by
    simp only [List.nodup_cons] at hn
    have ih := blocks_nodup S hn.2 (fun j hj => hl j (by simp [hj]))
    cases hk : ι k with
    | none =>
      have : blocks ι (k :: n) = blocks ι n := by simp [blocks, hk]
      rw [this]; exact ih
    | some p =>
      obtain ⟨b, c⟩ := p
      have : blocks ι (k :: n) = b :: blocks ι n := by simp [blocks, hk]
      rw [this, List.nodup_cons]
      refine ⟨fun hb => ?_, ih⟩
      obtain ⟨j, hj, c', hjc⟩ := blocks_mem hb
      obtain ⟨y, hy⟩ := hl k (by simp)
      obtain ⟨y', hy'⟩ := hl j (by simp [hj])
      exact S.inj k j y y' b c c' hy hy' (fun e => hn.1 (e ▸ hj)) hk hjc

theorem own_of_live (S : SimI C σ ι a w) {k b c : Nat} {y : Ent} (hy : geth σ.h k = some (true, y)) (hi : ι k = some (b, c)) : C.own b := by
  have h := S.ent k y hy
  cases y with
  | box T l => obtain ⟨b', cap, cur, h1, h2, _⟩ := h; rw [hi] at h1; simp at h1; exact h1.1 ▸ h2.1
  | arr T n l =>
    rcases h with ⟨h1, _⟩ | ⟨b', cap, cur, h1, h2, _⟩
    · rw [hi] at h1; cases h1
    · rw [hi] at h1; simp at h1; exact h1.1 ▸ h2
  | mp n l => obtain ⟨b', es, c', h1, h2, _⟩ := h; rw [hi] at h1; simp at h1; exact h1.1 ▸ h2
  | it n l cur => obtain ⟨b', m, es, c', sn, h1, h2, _⟩ := h; rw [hi] at h1; simp at h1; exact h1.1 ▸ h2
end

theorem get_parA : ∀ (ds : List D) (k s : Nat), get ((ds.zipIdx k).map fun p => (p.2, AV.dat p.1)) s = (if k ≤ s then (match ds[s - k]? with | some d => .dat d | none => .un) else .un)
  | [], k, s => by simp [get]
  | d :: ds, k, s => by
    simp only [List.zipIdx_cons, List.map_cons, get]
    by_cases h : k = s
    · subst h; simp
    · have : (k == s) = false := by simpa using h
      rw [this, cond_false, get_parA ds (k + 1) s]
      by_cases hk : k ≤ s
      · have h1 : k + 1 ≤ s := by omega
        have h2 : s - k = (s - (k + 1)) + 1 := by omega
        simp [hk, h1, h2]
      · have h1 : ¬ k + 1 ≤ s := by omega
        simp [hk, h1]

theorem RepL_length {ok : Nat → Prop} {w : World} : ∀ {l : List D} {vs : List Value}, RepL ok w l vs → vs.length = l.length
  | [], vs, h => by simp only [RepL] at h; simp [h]
  | d :: l, vs, h => by
    simp only [RepL] at h
    obtain ⟨v, vs', rfl, _, h⟩ := h
    simp [RepL_length h]

theorem RepL_get {ok : Nat → Prop} {w : World} : ∀ {l : List D} {vs : List Value} (k : Nat) {d : D}, RepL ok w l vs → l[k]? = some d → ∃ v, vs[k]? = some v ∧ RepD ok w d v
  | [], vs, k, d, h, e => by simp at e
  | d0 :: l, vs, 0, d, h, e => by
    simp only [RepL] at h
    obtain ⟨v, vs', rfl, h1, h⟩ := h
    simp at e; subst e
    exact ⟨v, by simp, h1⟩
  | d0 :: l, vs, k + 1, d, h, e => by
    simp only [RepL] at h
    obtain ⟨v, vs', rfl, h1, h⟩ := h
    simpa using RepL_get k h (by simpa using e)

theorem Fn.of {P : Program} {f : FuncId} {fn : Func} {c : Code} {ds : List D} {r : RV} (hf : P.funcs[f]? = some fn) (hb : fn.body = some c) (hl : ds.length ≤ fn.ntmps)
    (h : ∀ w0 G, WA ⟨P, w0, fun _ => False, fn.ntmps, G⟩ c (Ret P fn.results.toList r) (Ret P fn.results.toList r) (fun _ _ => False) ⟨parA ds, []⟩) : Fn P f ds r := by
  intro w vs G hargs
  have hlen := RepL_length hargs
  simp only [Array.length_toList] at hlen
  have S0 : SimI ⟨P, w, fun _ => False, fn.ntmps, G⟩ ⟨parA ds, []⟩ (fun _ => none) { tmps := vs ++ Array.replicate (fn.ntmps - vs.size) undef, defers := [] } w := by
    refine ⟨fun s => ?_, fun nm x hx => by simp [geth] at hx, fun nm nm' x x' b c c' hx => by simp [geth] at hx, rfl, rfl, rfl, Nat.le_refl _, fun _ _ _ => rfl, rfl, by simp; omega⟩
    have hg := get_parA ds 0 s
    simp only [parA]
    rw [hg]
    simp only [Nat.zero_le, if_true, Nat.sub_zero]
    split
    · rename_i d hd
      obtain ⟨v, hv, hr⟩ := RepL_get s hargs hd
      have hs : s < vs.size := by
        have := (List.getElem?_eq_some_iff.1 hv).1
        simpa using this
      have : (vs ++ Array.replicate (fn.ntmps - vs.size) undef).getD s undef = v := by
        simp only [Array.getElem?_toList] at hv
        simp [Array.getD_eq_getD_getElem?, Array.getElem?_append_left hs, hv]
      simp only [this, RepA]
      exact RepD.tr (fun b hb => ⟨hb.1, fun nm x c hx => by simp [geth] at hx, fun hF => hb.2 hF.1⟩) (fun _ _ => rfl) _ _ hr
    · simp only [RepA]
  refine calls_of_wp hf hb (wp_mono ((h w G).app _ w ⟨_, S0⟩) fun e a w' hq => ?_)
  have key : ∀ σ, Ret P fn.results.toList r σ → Sim ⟨P, w, fun _ => False, fn.ntmps, G⟩ σ a w' → a.defers = [] ∧ ∃ v, (results fn a.tmps).run P w' = .ok v w' ∧ ∃ v' bs, Ending.returned v = .returned v' ∧ Below w.heap.size w w' ∧ bs.Nodup ∧ (∀ b ∈ bs, w.heap.size ≤ b) ∧ RepR (fun b => (b < w'.heap.size ∧ ¬ (G b ∧ b < w.heap.size)) ∧ b ∉ bs) w' r v' bs := by
    intro σ hret S
    obtain ⟨ι, S⟩ := S
    refine ⟨S.def0, ?_⟩
    unfold Ret at hret
    split at hret
    · exact hret.elim
    · rename_i as p has
      obtain ⟨hp, hret⟩ := hret
      obtain ⟨vals, hv1, hv2⟩ := resA_rep S fn.results.toList as p has hp
      have hres : (results fn a.tmps).run P w' = .ok (if h : vals.toArray.size = 1 then vals.toArray[0] else .tuple vals.toArray) w' := by
        unfold results
        simp only [Array.mapM_eq_mapM_toList, Sem.run_bind]
        have := congrArg (fun r => Result.andThen r fun (x : List Value) w => Result.ok x.toArray w) hv1
        have h2 : (do let r ← fn.results.toList.mapM fun (x : ResultVar) => (match x with | .tmp t => pure (a.tmps.getD t undef) | .cell t T => do loadVar T (← asAddr (a.tmps.getD t undef)) : Sem Value); pure r.toArray : Sem (Array Value)).run P w' = .ok vals.toArray w' := by
          simp only [Sem.run_bind, hv1, Result.andThen_ok, Sem.run_pure]
        have h3 : (List.toArray <$> fn.results.toList.mapM fun (x : ResultVar) => (match x with | .tmp t => pure (a.tmps.getD t undef) | .cell t T => do loadVar T (← asAddr (a.tmps.getD t undef)) : Sem Value)).run P w' = .ok vals.toArray w' := h2
        refine (congrArg (fun r => Result.andThen r _) h3).trans ?_
        simp only [Result.andThen_ok, Sem.run_pure]
      have hbel : Below w.heap.size w w' := ⟨S.os, S.tape, S.output, S.size, fun k hk => S.old k hk (fun h => h)⟩
      have fin1 : ∀ (v : Value) (n : List Nat), RepR (okR ⟨P, w, fun _ => False, fn.ntmps, G⟩ σ ι w') w' r v (blocks ι n) → n.Nodup → (∀ k ∈ n, ∃ T n l, geth σ.h k = some (true, .arr T n l)) → (results fn a.tmps).run P w' = .ok v w' →
          ∃ v, (results fn a.tmps).run P w' = .ok v w' ∧ ∃ v' bs, Ending.returned v = .returned v' ∧ Below w.heap.size w w' ∧ bs.Nodup ∧ (∀ b ∈ bs, w.heap.size ≤ b) ∧ RepR (fun b => (b < w'.heap.size ∧ ¬ (G b ∧ b < w.heap.size)) ∧ b ∉ bs) w' r v' bs := by
        intro v n hrep hnd hlive0 hrun
        have hlive : ∀ k ∈ n, ∃ y, geth σ.h k = some (true, y) := fun k hk => by obtain ⟨T, n, l, h⟩ := hlive0 k hk; exact ⟨_, h⟩
        refine ⟨v, hrun, v, blocks ι n, rfl, hbel, blocks_nodup S hnd hlive, fun b hb => ?_, RepR_tr (fun b hb => ⟨⟨hb.1, fun h => hb.2.1 ⟨h.1, h.2, fun h => h⟩⟩, fun hm => ?_⟩) _ _ _ hrep⟩
        case refine_2 =>
          obtain ⟨k, hk, c', hkc⟩ := blocks_mem hm
          obtain ⟨T, n, l, hl⟩ := hlive0 k hk
          exact hb.2.2 k T n l c' hl hkc
        obtain ⟨k, hk, c', hkc⟩ := blocks_mem hb
        obtain ⟨y, hy⟩ := hlive k hk
        rcases own_of_live S hy hkc with h | h
        · exact h
        · exact h.elim
      split at hret
      · rename_i x
        split at hret
        · rename_i n q hra
          simp only [RepAs] at hv2
          obtain ⟨v, vs', rfl, hx, _, rfl⟩ := hv2
          obtain ⟨h1, h2⟩ := retA_rep S x r v n q hx hra hret.2
          exact fin1 v n h1 hret.1 h2 (by rw [hres]; simp)
        · exact hret.elim
      · rename_i r' rs hne
        split at hret
        · rename_i n q hra
          obtain ⟨h1, h2⟩ := retAs_rep S false as rs vals n q hv2 hra hret.2
          have hlv := RepAs_length hv2
          have hn1 : ¬ vals.length = 1 := by
            intro h1
            rw [hlv] at h1
            obtain ⟨x, hx⟩ := List.length_eq_one_iff.1 h1
            exact hne x hx
          exact fin1 (.tuple vals.toArray) n (by simp only [RepR]; exact ⟨vals, rfl, h1⟩) hret.1 h2 (by rw [hres]; simp [hn1])
        · exact hret.elim
      · exact hret.elim
  cases e with
  | normal => obtain ⟨σ, h1, h2⟩ := hq; exact key σ h1 h2
  | ret => obtain ⟨σ, h1, h2⟩ := hq; exact key σ h1 h2
  | exit i => obtain ⟨σ, h1, h2⟩ := hq; exact h1.elim
  | goto l => exact hq.elim
  | panic ch => exact hq.elim
  | outgrown => exact hq.elim
end Go.Eng

namespace Go.Eng
open Go.RowKit


def lk (ρ : List (Nat × Option Nat)) (k : Nat) : Option Nat := match ρ with
  | [] => some k
  | (j, x) :: l => bif j == k then x else lk l k

def unp : AV → AV
  | .pin _ x => unp x
  | x => x
mutual
def leA (ρ : List (Nat × Option Nat)) (h : Hp) (img : List Nat) (a : AV) : AV → Prop
  | .un => True
  | .dat d => match unp a with
    | .dat d' => d' = d
    | .vw nm o m n => match geth h nm with
      | some (g', .arr _ n' l) => (img.contains nm = false) ∧ g' = true ∧ n' = n ∧ o + m ≤ l.length ∧ D.sl n ((l.drop o).take m) = d
      | _ => False
    | _ => False
  | .rp l => unp a = .rp l
  | .vw nm o m n => match lk ρ nm with
    | some k => unp a = .vw k o m n
    | none => unp a = .dat (.v (.slice none 0 0)) ∧ o = 0 ∧ m = 0
  | .pt nm o => match lk ρ nm with
    | some k => unp a = .pt k o
    | none => False
  | .ep nm k f n => match lk ρ nm with
    | some j => unp a = .ep j k f n
    | none => False
  | .agg l => match unp a with
    | .agg l0 => leAs ρ h img l0 l
    | .dat (.agg ds) => leAs ρ h img (ds.map AV.dat) l
    | _ => False
  | .tup l => match unp a with
    | .tup l0 => leAs ρ h img l0 l
    | _ => False
  | .gd _ _ => False
  | .pin u x => match a with
    | .pin u' x' => u' = u ∧ leA ρ h img x' x
    | _ => False
  | .mp nm => match lk ρ nm with
    | some k => unp a = .mp k
    | none => False
  | .cl f l => match unp a with
    | .cl f' l0 => f' = f ∧ leAs ρ h img l0 l
    | _ => False
def leAs (ρ : List (Nat × Option Nat)) (h : Hp) (img : List Nat) (as : List AV) : List AV → Prop
  | [] => as = []
  | b :: l => match as with
    | a :: as' => leA ρ h img a b ∧ leAs ρ h img as' l
    | [] => False
end

def leE (ρ : List (Nat × Option Nat)) (h : Hp) (img : List Nat) (x : Option (Bool × Ent)) : Ent → Prop
  | .box T c => match x with
    | some (g, .box T' c') => g = true ∧ T' = T ∧ leAs ρ h img c' c
    | _ => False
  | .arr T n l => match x with
    | some (g, .arr T' n' l') => g = true ∧ T' = T ∧ n' = n ∧ l' = l
    | _ => False
  | .mp n l => match x with
    | some (g, .mp n' l') => g = true ∧ n' = n ∧ l' = l
    | _ => False
  | .it n l cur => match x with
    | some (g, .it n' l' cur') => g = true ∧ n' = n ∧ l' = l ∧ (cur = none ∨ cur = cur')
    | _ => False

def leEnv (ρ : List (Nat × Option Nat)) (h : Hp) (img : List Nat) (e : List (Nat × AV)) : List (Nat × AV) → Prop
  | [] => True
  | (k, b) :: l => leA ρ h img (get e k) b ∧ leEnv ρ h img e l

def imgs (ρ : List (Nat × Option Nat)) : Hp → List Nat
  | [] => []
  | (k, some _) :: l => match lk ρ k with
    | some j => j :: imgs ρ l
    | none => imgs ρ l
  | (_, none) :: l => imgs ρ l

def leHp (ρ : List (Nat × Option Nat)) (h : Hp) (img : List Nat) : Hp → Prop
  | [] => True
  | (k, some (g, x)) :: l => g = true ∧ (match lk ρ k with
      | some j => leE ρ h img (geth h j) x
      | none => match x with
        | .arr _ _ l => l = []
        | _ => False) ∧ leHp ρ h img l
  | (_, none) :: l => leHp ρ h img l

def noDup : List Nat → Bool
  | [] => true
  | k :: l => !l.contains k && noDup l

def Sub (ρ : List (Nat × Option Nat)) (σ σ' : St) : Prop :=
  noDup (imgs ρ σ'.h) = true ∧ leHp ρ σ.h (imgs ρ σ'.h) σ'.h ∧ leEnv ρ σ.h (imgs ρ σ'.h) σ.e σ'.e

section
variable {C : Ctx} {σ σ' : St} {ρ : List (Nat × Option Nat)} {a : Act} {w : World} {ι : Nat → Option (Nat × Nat)}

theorem leHp_geth {h : Hp} {img : List Nat} : ∀ {h' : Hp} {k : Nat} {g : Bool} {x : Ent}, leHp ρ h img h' → geth h' k = some (g, x) → match lk ρ k with
      | some j => leE ρ h img (geth h j) x
      | none => match x with
        | .arr _ _ l => l = []
        | _ => False
  | [], k, g, x, _, hg => by simp [geth] at hg
  | (j, y) :: l, k, g, x, hl, hg => by
    simp only [geth] at hg
    cases hj : j == k
    · rw [hj, cond_false] at hg
      cases y with
      | none => exact leHp_geth (h' := l) hl hg
      | some p => exact leHp_geth (h' := l) hl.2.2 hg
    · rw [hj, cond_true] at hg
      subst hg
      simp only [beq_iff_eq] at hj; subst hj
      exact hl.2.1

theorem imgs_mem : ∀ {h' : Hp} {k j : Nat} {p : Bool × Ent}, geth h' k = some p → lk ρ k = some j → j ∈ imgs ρ h'
  | [], k, j, p, hg, _ => by simp [geth] at hg
  | (i, y) :: l, k, j, p, hg, hl => by
    simp only [geth] at hg
    cases hi : i == k
    · rw [hi, cond_false] at hg
      have := imgs_mem (h' := l) hg hl
      cases y with
      | none => exact this
      | some q =>
        simp only [imgs]
        split
        · exact List.mem_cons_of_mem _ this
        · exact this
    · rw [hi, cond_true] at hg
      subst hg
      simp only [beq_iff_eq] at hi; subst hi
      simp only [imgs, hl]
      exact List.mem_cons_self

theorem imgs_inj : ∀ {h' : Hp}, noDup (imgs ρ h') = true → ∀ {k k' j : Nat} {p p' : Bool × Ent}, geth h' k = some p → geth h' k' = some p' → lk ρ k = some j → lk ρ k' = some j → k = k'
  | [], _, k, k', j, p, p', hg, _, _, _ => by simp [geth] at hg
  | (i, y) :: l, hn, k, k', j, p, p', hg, hg', h1, h2 => by
    simp only [geth] at hg hg'
    have hnl : noDup (imgs ρ l) = true := by
      cases y with
      | none => exact hn
      | some q =>
        simp only [imgs] at hn
        split at hn
        · simp only [noDup, Bool.and_eq_true] at hn; exact hn.2
        · exact hn
    cases hi : i == k
    · rw [hi, cond_false] at hg
      cases hi' : i == k'
      · rw [hi', cond_false] at hg'
        exact imgs_inj hnl hg hg' h1 h2
      · rw [hi', cond_true] at hg'
        subst hg'
        simp only [beq_iff_eq] at hi'; subst hi'
        simp only [imgs, h2, noDup, Bool.and_eq_true, Bool.not_eq_true'] at hn
        have := imgs_mem hg h1
        have h3 := hn.1
        simp [List.contains_eq_mem, this] at h3
    · rw [hi, cond_true] at hg
      subst hg
      simp only [beq_iff_eq] at hi; subst hi
      cases hi' : i == k'
      · rw [hi', cond_false] at hg'
        simp only [imgs, h1, noDup, Bool.and_eq_true, Bool.not_eq_true'] at hn
        have := imgs_mem hg' h2
        have h3 := hn.1
        simp [List.contains_eq_mem, this] at h3
      · simpa using hi'

def mv (ρ : List (Nat × Option Nat)) (ι : Nat → Option (Nat × Nat)) (k : Nat) : Option (Nat × Nat) := match lk ρ k with
  | some j => ι j
  | none => none

theorem Sub.live (_S : SimI C σ ι a w) (hs : Sub ρ σ σ') {k : Nat} {x : Ent} {b c : Nat} (hx : geth σ'.h k = some (true, x)) (hi : mv ρ ι k = some (b, c)) : ∃ j y, lk ρ k = some j ∧ geth σ.h j = some (true, y) ∧ ι j = some (b, c) := by
  unfold mv at hi
  split at hi
  · rename_i j hj
    have := leHp_geth hs.2.1 hx
    rw [hj] at this
    simp only at this
    cases x with
    | box T cc =>
      simp only [leE] at this
      split at this
      · rename_i g T' c' hg
        obtain ⟨rfl, _⟩ := this
        exact ⟨j, _, hj, hg, hi⟩
      · exact this.elim
    | arr T n l =>
      simp only [leE] at this
      split at this
      · rename_i g T' n' l' hg
        obtain ⟨rfl, _⟩ := this
        exact ⟨j, _, hj, hg, hi⟩
      · exact this.elim
    | mp n l =>
      simp only [leE] at this
      split at this
      · rename_i g n' l' hg
        obtain ⟨rfl, _⟩ := this
        exact ⟨j, _, hj, hg, hi⟩
      · exact this.elim
    | it n l cur =>
      simp only [leE] at this
      split at this
      · rename_i g n' l' cur' hg
        obtain ⟨rfl, _⟩ := this
        exact ⟨j, _, hj, hg, hi⟩
      · exact this.elim
  · cases hi

theorem Sub.ok (S : SimI C σ ι a w) (hs : Sub ρ σ σ') : ∀ b, okOf C.F σ.h ι w b → okOf C.F σ'.h (mv ρ ι) w b := by
  intro b hb
  refine ⟨hb.1, fun k x c hx hi => ?_, hb.2.2⟩
  obtain ⟨j, y, _, h1, h2⟩ := Sub.live S hs hx hi
  exact hb.2.1 j y c h1 h2

theorem unp_rep {ok : Nat → Prop} {ι : Nat → Option (Nat × Nat)} {w : World} : ∀ {x : AV} {v : Value}, RepA ok ι w x v → RepA ok ι w (unp x) v
  | .pin u x, v, h => by simp only [unp]; simp only [RepA] at h; exact unp_rep h.2
  | .un, v, h | .dat _, v, h | .agg _, v, h | .tup _, v, h | .rp _, v, h | .pt .., v, h | .ep .., v, h | .vw .., v, h | .gd .., v, h | .cl .., v, h | .mp .., v, h => by simpa only [unp] using h

mutual
theorem leA_rep (S : SimI C σ ι a w) (hs : Sub ρ σ σ') : ∀ (b A : AV) (v : Value), leA ρ σ.h (imgs ρ σ'.h) A b → RepA (okOf C.F σ.h ι w) ι w A v → RepA (okOf C.F σ'.h (mv ρ ι) w) (mv ρ ι) w b v
  | .un, A, v, hl, hr => by simp only [RepA]
  | .dat d, A, v, hl, hr => by
    replace hr := unp_rep hr
    simp only [leA] at hl
    generalize unp A = A at hl hr
    split at hl
    · subst hl
      simp only [RepA] at hr ⊢
      exact RepD.tr (Sub.ok S hs) (fun _ _ => rfl) _ _ hr
    · rename_i nm oo m n
      split at hl
      · rename_i g' T n' l hg
        obtain ⟨himg, rfl, rfl, hle, rfl⟩ := hl
        have hlen : ((l.drop oo).take m).length = m := by simp; omega
        simp only [RepA] at hr ⊢
        simp only [RepD]
        rcases hr with ⟨hi, rfl, rfl, rfl⟩ | ⟨b, c, hi, rfl, hoc⟩
        · exact ⟨by simp, .inl ⟨by simp, _, _, rfl⟩⟩
        · rcases S.ent nm _ hg with ⟨h1, _⟩ | ⟨b', cap, cur, h1, h2, h3, h4, h5, h6, h7⟩
          · rw [hi] at h1; cases h1
          · rw [hi] at h1; simp only [Option.some.injEq, Prod.mk.injEq] at h1
            obtain ⟨rfl, rfl⟩ := h1
            refine ⟨by omega, .inr ⟨b, oo * n', c - oo, _, by rw [hlen], by omega, ⟨(Array.getElem?_eq_some_iff.1 h3).1, fun k x c' hx hik => ?_, C.own_F h2⟩, RepDss.tr (Sub.ok S hs) (fun _ _ => rfl) _ _ _ (RepDss_take m (RepDss_drop oo h7)), ?_⟩⟩
            · obtain ⟨j, y, e1, e2, e3⟩ := Sub.live S hs hx hik
              by_cases hj : j = nm
              · subst hj
                have := imgs_mem hx e1
                simp [List.contains_eq_mem, this] at himg
              · exact S.inj nm j _ y b c c' hg e2 (fun e => hj e.symm) hi e3
            · have hc := cellsAt_take (k := m * n') (cellsAt_drop (k := oo * n') (cellsAt_take (k := l.length * n') (cellsAt_block (o := 0) h3)))
              simpa using hc
      · exact hl.elim
    · exact hl.elim
  | .rp l, A, v, hl, hr => by
    replace hr := unp_rep hr
    simp only [leA] at hl
    generalize unp A = A at hl hr
    subst hl
    simp only [RepA] at hr ⊢
    obtain ⟨b, o, vs, e, hb, h1, h2⟩ := hr
    exact ⟨b, o, vs, e, Sub.ok S hs b hb, RepDs.tr (Sub.ok S hs) (fun _ _ => rfl) _ _ h1, h2⟩
  | .vw nm o m n, A, v, hl, hr => by
    replace hr := unp_rep hr
    simp only [leA] at hl
    generalize unp A = A at hl hr
    split at hl
    · rename_i k hk
      subst hl
      simp only [RepA] at hr ⊢
      simp only [mv, hk]
      exact hr
    · rename_i hk
      obtain ⟨rfl, rfl, rfl⟩ := hl
      simp only [RepA, RepD] at hr ⊢
      exact .inl ⟨by simp [mv, hk], hr, by simp⟩
  | .pt nm o, A, v, hl, hr => by
    replace hr := unp_rep hr
    simp only [leA] at hl
    generalize unp A = A at hl hr
    split at hl
    · rename_i k hk
      subst hl
      simp only [RepA] at hr ⊢
      simp only [mv, hk]
      exact hr
    · exact hl.elim
  | .ep nm k f n, A, v, hl, hr => by
    replace hr := unp_rep hr
    simp only [leA] at hl
    generalize unp A = A at hl hr
    split at hl
    · rename_i k hk
      subst hl
      simp only [RepA] at hr ⊢
      simp only [mv, hk]
      exact hr
    · exact hl.elim
  | .agg l, A, v, hl, hr => by
    replace hr := unp_rep hr
    simp only [leA] at hl
    generalize unp A = A at hl hr
    split at hl
    · simp only [RepA] at hr ⊢
      obtain ⟨vs, e, h1⟩ := hr
      exact ⟨vs, e, leAs_rep S hs true l _ vs hl h1⟩
    · simp only [RepA, RepD] at hr ⊢
      obtain ⟨vs, e, h1⟩ := hr
      exact ⟨vs, e, leAs_rep S hs true l _ vs hl (RepAs_dat.2 h1)⟩
    · exact hl.elim
  | .tup l, A, v, hl, hr => by
    replace hr := unp_rep hr
    simp only [leA] at hl
    generalize unp A = A at hl hr
    split at hl
    · simp only [RepA] at hr ⊢
      obtain ⟨vs, e, h1⟩ := hr
      exact ⟨vs, e, leAs_rep S hs false l _ vs hl h1⟩
    · exact hl.elim
  | .gd _ _, A, v, hl, hr => by simp only [leA] at hl
  | .pin u x, A, v, hl, hr => by
    simp only [leA] at hl
    split at hl
    · obtain ⟨rfl, hl⟩ := hl
      simp only [RepA] at hr ⊢
      exact ⟨hr.1, leA_rep S hs x _ v hl hr.2⟩
    · exact hl.elim
  | .cl f l, A, v, hl, hr => by
    replace hr := unp_rep hr
    simp only [leA] at hl
    generalize unp A = A at hl hr
    split at hl
    · obtain ⟨rfl, hl⟩ := hl
      simp only [RepA] at hr ⊢
      obtain ⟨vs, e, h1⟩ := hr
      exact ⟨vs, e, leAs_rep S hs false l _ vs hl h1⟩
    · exact hl.elim
  | .mp nm, A, v, hl, hr => by
    replace hr := unp_rep hr
    simp only [leA] at hl
    generalize unp A = A at hl hr
    split at hl
    · rename_i k hk
      subst hl
      simp only [RepA, mv, hk] at hr ⊢
      exact hr
    · exact hl.elim
theorem leAs_rep (S : SimI C σ ι a w) (hs : Sub ρ σ σ') (one : Bool) : ∀ (l As : List AV) (vs : List Value), leAs ρ σ.h (imgs ρ σ'.h) As l → RepAs (okOf C.F σ.h ι w) ι w one As vs → RepAs (okOf C.F σ'.h (mv ρ ι) w) (mv ρ ι) w one l vs
  | [], As, vs, hl, hr => by
    simp only [leAs] at hl
    subst hl
    simpa only [RepAs] using hr
  | b :: l, As, vs, hl, hr => by
    simp only [leAs] at hl
    split at hl
    · simp only [RepAs] at hr ⊢
      obtain ⟨v, vs', e, h1, h2, h3⟩ := hr
      exact ⟨v, vs', e, leA_rep S hs b _ v hl.1 h1, h2, leAs_rep S hs one l _ vs' hl.2 h3⟩
    · exact hl.elim
end

theorem leEnv_get {img : List Nat} {h : Hp} {e : List (Nat × AV)} : ∀ {e' : List (Nat × AV)} (s : Nat), leEnv ρ h img e e' → leA ρ h img (get e s) (get e' s)
  | [], s, _ => by simp only [get, leA]
  | (k, b) :: l, s, hl => by
    simp only [get]
    cases hk : k == s
    · exact leEnv_get (e' := l) s hl.2
    · simp only [beq_iff_eq] at hk; subst hk
      exact hl.1

theorem Sub.simI (S : SimI C σ ι a w) (hs : Sub ρ σ σ') : SimI C σ' (mv ρ ι) a w := by
  refine ⟨fun s => leA_rep S hs _ _ _ (leEnv_get s hs.2.2) (S.env s), fun k x hx => ?_, fun k k' x x' b c c' hx hx' hne hi hi' => ?_, S.os, S.tape, S.output, S.size, S.old, S.def0, S.tms⟩
  · have hle := leHp_geth hs.2.1 hx
    cases hk : lk ρ k with
    | none =>
      rw [hk] at hle
      simp only at hle
      cases x with
      | box T c => exact hle.elim
      | arr T n l => exact .inl ⟨by simp [mv, hk], hle⟩
      | mp n l => exact hle.elim
      | it n l cur => exact hle.elim
    | some j =>
      rw [hk] at hle
      simp only at hle
      have hmv : mv ρ ι k = ι j := by simp [mv, hk]
      cases x with
      | box T c =>
        simp only [leE] at hle
        split at hle
        · rename_i g T' c' hg
          obtain ⟨rfl, rfl, hl⟩ := hle
          obtain ⟨b, cap, cur, h1, h2, h3, h4⟩ := S.ent j _ hg
          exact ⟨b, cap, cur, by rw [hmv, h1], h2, h3, leAs_rep S hs true c c' _ hl h4⟩
        · exact hle.elim
      | arr T n l =>
        simp only [leE] at hle
        split at hle
        · rename_i g T' n' l' hg
          obtain ⟨rfl, rfl, rfl, rfl⟩ := hle
          rcases S.ent j _ hg with ⟨h1, h2⟩ | ⟨b, cap, cur, h1, h2, h3, h4, h5, h6, h7⟩
          · exact .inl ⟨by rw [hmv, h1], h2⟩
          · exact .inr ⟨b, cap, cur, by rw [hmv, h1], h2, h3, h4, h5, h6, RepDss.tr (Sub.ok S hs) (fun _ _ => rfl) _ _ _ h7⟩
        · exact hle.elim
      | mp n l =>
        simp only [leE] at hle
        split at hle
        · rename_i g n' l' hg
          obtain ⟨rfl, rfl, rfl⟩ := hle
          obtain ⟨b, es, c, h1, h2, h3, h4, h5⟩ := S.ent j _ hg
          exact ⟨b, es, c, by rw [hmv, h1], h2, h3, RepEs.tr (Sub.ok S hs) (fun _ _ => rfl) h4, h5⟩
        · exact hle.elim
      | it n l cur =>
        simp only [leE] at hle
        split at hle
        · rename_i g n' l' cur' hg
          obtain ⟨rfl, rfl, rfl, hcur⟩ := hle
          obtain ⟨b, m, es, c, sn, h1, h2, h3, h4, h5, h6, h7, h8⟩ := S.ent j _ hg
          refine ⟨b, m, es, c, sn, by rw [hmv, h1], h2, h3, Sub.ok S hs m h4, h5, h6, RepEs.tr (Sub.ok S hs) (fun _ _ => rfl) h7, ?_⟩
          rcases hcur with rfl | rfl
          · trivial
          · exact CurOk.tr (Sub.ok S hs) (fun _ _ => rfl) h8
        · exact hle.elim
  · obtain ⟨j, y, e1, e2, e3⟩ := Sub.live S hs hx hi
    obtain ⟨j', y', e1', e2', e3'⟩ := Sub.live S hs hx' hi'
    by_cases hj : j = j'
    · subst hj
      exact hne (imgs_inj hs.1 hx hx' e1 e1')
    · exact S.inj j j' y y' b c c' e2 e2' hj e3 e3'
end

theorem Sub.sim {C : Ctx} {σ σ' : St} {ρ : List (Nat × Option Nat)} (hs : Sub ρ σ σ') : ∀ a w, Sim C σ a w → Sim C σ' a w :=
  fun _ _ ⟨_, S⟩ => ⟨_, Sub.simI S hs⟩

def clr (W : List Nat) : List (Nat × AV) → List (Nat × AV)
  | [] => []
  | (k, a) :: l => bif W.contains k then clr W l else (k, a) :: clr W l
def clrh (W : List Nat) : Hp → Hp
  | [] => []
  | (k, a) :: l => bif W.contains k then clrh W l else (k, a) :: clrh W l

def Nxt {α : Type} (f : α → List (Nat × AV)) (fh : α → Hp) (e0 : List (Nat × AV)) (h0 : Hp) (ρ : List (Nat × Option Nat)) (I : α → Prop) (μ : α → Nat) (m : Nat) (σ' : St) : Prop :=
  ∃ x', I x' ∧ μ x' < m ∧ Sub ρ σ' ⟨f x' ++ e0, fh x' ++ h0⟩

theorem Nxt.mk {α : Type} {f : α → List (Nat × AV)} {fh : α → Hp} {e0 : List (Nat × AV)} {h0 : Hp} {ρ : List (Nat × Option Nat)} {I : α → Prop} {μ : α → Nat} {m : Nat} {σ' : St} (x' : α) (h1 : I x') (h2 : μ x' < m) (h3 : Sub ρ σ' ⟨f x' ++ e0, fh x' ++ h0⟩) : Nxt f fh e0 h0 ρ I μ m σ' := ⟨x', h1, h2, h3⟩

end Go.Eng

namespace Go.Eng
open Go.RowKit


def cd : Code → List Nat → Code
  | c, [] => c
  | .seq a _, 0 :: p => cd a p
  | .seq _ b, 1 :: p => cd b p
  | .cond _ a _, 0 :: p => cd a p
  | .cond _ _ b, 1 :: p => cd b p
  | .block _ c, 0 :: p => cd c p
  | .loop c, 0 :: p => cd c p
  | c, _ => c
def fcd (f : Func) (p : List Nat) : Code := match f.body with
  | some c => cd c p
  | none => .skip

theorem Fn.by {P : Program} {f : FuncId} {fn : Func} {ds : List D} {r : RV} (n : Nat) (rv : List ResultVar) (hf : P.funcs[f]? = some fn) (hb : fn.body = some (fcd fn [])) (hn : fn.ntmps = n) (hrv : fn.results.toList = rv) (hl : ds.length ≤ n)
    (h : ∀ w0 G, WA ⟨P, w0, fun _ => False, n, G⟩ (fcd fn []) (Ret P rv r) (Ret P rv r) (fun _ _ => False) ⟨parA ds, []⟩) : Fn P f ds r := by
  subst hn hrv
  exact Fn.of hf hb hl h

theorem Hold_some (r : Rn) (K : St → Prop) : Hold (some r) K = fin r.its (K r.σ) := rfl
theorem Cnd_b (c : Bool) (A B : Prop) : Cnd (.dat (.b c)) A B = ((c = true → A) ∧ (c = false → B)) := rfl

end Go.Eng

namespace Go.Eng
open Go.RowKit


structure OutD where
  av : AV
  hp : Hp
  side : Prop

def outD (P : Program) (Γ : FuncId → List D → RV) (fz : List Nat) (o : Oper) (g : Bool) (σ : St) : Option OutD :=
  (outOf P Γ fz o g σ).map fun x => ⟨x.av, x.hp, x.side⟩

def isNm (o : Oper) (k : Nat) : Prop := ∃ d, o.dst = some d ∧ (k = d ∨ (10000 + 100 * d ≤ k ∧ k < 10000 + 100 * d + 100))

def touch (o : Oper) : Bool := match o.op with
  | .load .. | .store .. | .alloc _ | .box .. | .buildSlice .. | .makeSlice .. => true
  | .call ⟨.value _, _, _⟩ => true
  | .call ⟨.builtin .append, _, _⟩ => true
  | _ => false
def isK : Operand → Bool
  | .const _ => true
  | _ => false
def muts (o : Oper) : Bool := match o.op with
  | .store .. => true
  | .call ⟨.builtin .append, as, _⟩ => match as.toList with
    | x :: _ => !isK x
    | [] => true
  | _ => false

section
variable {P : Program} {σ σ' : St} {o : Oper} {g : Bool}

theorem refs_sp {k : Nat} : ∀ {a : AV}, (sp a).refs k = true → a.refs k = true
  | .gd _ x, h => by simp only [AV.refs]; simp only [sp] at h; exact refs_sp h
  | .pin _ x, h => by simp only [AV.refs]; simp only [sp] at h; exact refs_sp h
  | .un, h | .dat _, h | .agg _, h | .tup _, h | .rp _, h | .pt .., h | .ep .., h | .vw .., h | .cl .., h | .mp .., h => by simpa only [sp] using h

mutual
theorem toD_local {h h' : Hp} : ∀ (a : AV), (∀ k, a.refs k = true → geth h k = geth h' k) → toD h a = toD h' a
  | .dat d, _ => by simp only [toD]
  | .vw nm o m n, hh => by simp only [toD, hh nm (by simp [AV.refs])]
  | .agg l, hh => by simp only [toD, toDs_local l (fun k hk => hh k (by simpa only [AV.refs] using hk))]
  | .pt nm o, hh => by simp only [toD, hh nm (by simp [AV.refs])]
  | .un, _ | .tup _, _ | .rp _, _ | .ep .., _ | .gd .., _ | .pin .., _ | .cl .., _ | .mp .., _ => by simp only [toD]
theorem toDs_local {h h' : Hp} : ∀ (l : List AV), (∀ k, AV.refsL k l = true → geth h k = geth h' k) → toDs h l = toDs h' l
  | [], _ => by simp only [toDs]
  | a :: l, hh => by simp only [toDs, toD_local a (fun k hk => hh k (by simp [AV.refsL, hk])), toDs_local l (fun k hk => hh k (by simp [AV.refsL, hk]))]
end

theorem argsD_local {h h' : Hp} : ∀ (l : List AV), (∀ a ∈ l, ∀ k, a.refs k = true → geth h k = geth h' k) → argsD g h l = argsD g h' l
  | [], _ => rfl
  | a :: l, hh => by
    simp only [argsD, toD_local (sp a) (fun k hk => hh a (by simp) k (refs_sp hk)), argsD_local l (fun b hb => hh b (by simp [hb]))]

theorem refsL_mem {k : Nat} : ∀ {l : List AV} {a : AV}, a ∈ l → a.refs k = true → AV.refsL k l = true
  | b :: l, a, hm, hk => by
    simp only [List.mem_cons] at hm
    simp only [AV.refsL, Bool.or_eq_true]
    rcases hm with rfl | hm
    · exact .inl hk
    · exact .inr (refsL_mem hm hk)

theorem vLoad_local {T : Nat} {h h' : Hp} {x : AV} (hh : ∀ k, x.refs k = true → geth h k = geth h' k) : vLoad P T g h x = vLoad P T g h' x := by
  unfold vLoad
  cases hs : sp x <;> (try simp only) <;> (try rfl)
  · rename_i d
    cases d <;> rfl
  · rename_i nm o
    rw [hh nm (refs_sp (by simp [hs, AV.refs]))]
  · rename_i nm k f n
    rw [hh nm (refs_sp (by simp [hs, AV.refs]))]

theorem vStore_local {T : Nat} {h h' : Hp} {x y : AV} (hh : ∀ k, x.refs k = true → geth h k = geth h' k) : vStore P T g h x y = vStore P T g h' x y := by
  unfold vStore
  cases hs : sp x <;> simp only <;> (try rfl)
  · rename_i nm o
    rw [hh nm (refs_sp (by simp [hs, AV.refs]))]
  · rename_i nm k f n
    rw [hh nm (refs_sp (by simp [hs, AV.refs]))]

theorem srcOf_local {n : Nat} {h h' : Hp} {x : AV} (hh : ∀ k, x.refs k = true → geth h k = geth h' k) : srcOf n g h x = srcOf n g h' x := by
  unfold srcOf
  cases hs : sp x with
  | vw nm o m n => simp only [hh nm (refs_sp (by simp [hs, AV.refs]))]
  | dat d => split <;> first | rfl | simp_all
  | _ => rfl

theorem dstOf_local {T n : Nat} {h h' : Hp} {x : AV} (hh : ∀ k, x.refs k = true → geth h k = geth h' k) : dstOf T n g h x = dstOf T n g h' x := by
  unfold dstOf
  cases hs : sp x with
  | vw nm o m n => simp only [hh nm (refs_sp (by simp [hs, AV.refs]))]
  | dat d => split <;> first | rfl | simp_all
  | _ => rfl

theorem vAlloc_local {d T : Nat} {out : Out} (hf : fresh d σ = true → fresh d σ' = true) (h : vAlloc P d T σ = some out) : vAlloc P d T σ' = some out := by
  cases hfr : fresh d σ
  · unfold vAlloc at h
    simp only [hfr, cond_false] at h
    split at h <;> cases h
  · rw [← h]; unfold vAlloc; rw [hfr, hf hfr]

theorem vBox_local {d T : Nat} {x : AV} {out : Out} (hf : fresh d σ = true → fresh d σ' = true) (h : vBox d T g σ x = some out) : vBox d T g σ' x = some out := by
  cases hfr : fresh d σ
  · unfold vBox at h
    simp only [hfr, cond_false] at h
    split at h <;> cases h
  · rw [← h]; unfold vBox; rw [hfr, hf hfr]

theorem vBuildS_local {fz : Bool} {d T len : Nat} {ps : List (Nat × AV)} {out : Out} (hf : fresh d σ = true → fresh d σ' = true) (h : vBuildS P fz d T len g σ ps = some out) : vBuildS P fz d T len g σ' ps = some out := by
  cases fz
  · cases hfr : fresh d σ
    · unfold vBuildS at h
      simp only [hfr, Bool.cond_eq_ite, Bool.false_eq_true, if_false] at h
      repeat' (split at h)
      all_goals cases h
    · rw [← h]; unfold vBuildS; rw [hfr, hf hfr]
  · rw [← h]; unfold vBuildS; rfl

theorem vMake_local {fz : Bool} {d T : Nat} {x y : AV} {out : Out} (hf : fresh d σ = true → fresh d σ' = true) (h : vMake P fz d T g σ x y = some out) : vMake P fz d T g σ' x y = some out := by
  cases fz
  · cases hfr : fresh d σ
    · unfold vMake at h
      simp only [hfr, Bool.cond_eq_ite, Bool.false_eq_true, if_false] at h
      repeat' (split at h)
      all_goals cases h
    · rw [← h]; unfold vMake; rw [hfr, hf hfr]
  · rw [← h]; unfold vMake; rfl

theorem vApp_local {d T : Nat} {x y : AV} {out : Out} (hx : ∀ k, x.refs k = true → geth σ.h k = geth σ'.h k) (hy : ∀ k, y.refs k = true → geth σ.h k = geth σ'.h k) (hf : fresh d σ = true → fresh d σ' = true)
    (h : vApp P d T g σ x y = some out) : vApp P d T g σ' x y = some out := by
  cases hfr : fresh d σ
  · unfold vApp at h
    simp only [hfr, Bool.and_false, cond_false] at h
    repeat' (split at h)
    all_goals cases h
  · rw [← h]; unfold vApp; simp only [dstOf_local hx, srcOf_local hy, hfr, hf hfr]

theorem freshR_mono {σ σ' : St} : ∀ {n k : Nat}, (∀ j, k ≤ j → j < k + n → fresh j σ = true → fresh j σ' = true) → freshR σ k n = true → freshR σ' k n = true
  | 0, _, _, _ => rfl
  | n + 1, k, hh, h => by
    simp only [freshR, Bool.and_eq_true] at h ⊢
    exact ⟨hh k (Nat.le_refl _) (by omega) h.1, freshR_mono (fun j h1 h2 => hh j (by omega) (by omega)) h.2⟩

theorem partsA_congr {e e' : List (Nat × AV)} {ps : Array (Nat × Operand)} (h : ∀ p ∈ ps.toList, opnd e p.2 = opnd e' p.2) : partsA e ps = partsA e' ps := by
  unfold partsA
  exact List.map_congr_left fun p hp => by rw [h p hp]

theorem vCall_local {Γ : FuncId → List D → RV} {fz : Bool} {d f : Nat} {as : List AV} {out : Out} (hb : ∀ a ∈ as, ∀ k, a.refs k = true → geth σ.h k = geth σ'.h k) (hc : ∀ k, isNm o k → fresh k σ = true → fresh k σ' = true) (hd : o.dst = some d)
    (h1 : vCall P Γ fz d f g σ as = some out) : vCall P Γ fz d f g σ' as = some out := by
  unfold vCall at h1 ⊢
  have hargs : argsD g σ.h as = argsD g σ'.h as := argsD_local _ hb
  rw [← hargs]
  split at h1
  · cases h1
  · rename_i ds p _
    cases hmx : mixOf (Γ f ds) with
    | some l =>
      simp only [hmx] at h1 ⊢
      exact h1
    | none =>
      simp only [hmx] at h1 ⊢
      unfold vCallR at h1 ⊢
      cases fz
      · simp only [cond_false] at h1 ⊢
        cases hfr : (freshR σ (10000 + 100 * d) ((inst (10000 + 100 * d) (Γ f ds)).2.2 - (10000 + 100 * d)) && decide ((inst (10000 + 100 * d) (Γ f ds)).2.2 ≤ 10000 + 100 * d + 100))
        · simp [hfr] at h1
        · simp only [hfr, cond_true] at h1
          simp only [Bool.and_eq_true, decide_eq_true_eq] at hfr
          have hle := hfr.2
          have hfr' := freshR_mono (σ' := σ') (fun j h1 h2 hj => hc j ⟨d, hd, .inr ⟨h1, by omega⟩⟩ hj) hfr.1
          simp only [hfr', hle, decide_true, Bool.and_self, cond_true]
          exact h1
      · exact h1

theorem outD_local {Γ : FuncId → List D → RV} {fz : List Nat} {r : OutD} (ha : ∀ x ∈ o.op.operands, opnd σ.e x = opnd σ'.e x)
    (hb : touch o = true → ∀ x ∈ o.op.operands, ∀ k, (opnd σ.e x).refs k = true → geth σ.h k = geth σ'.h k) (hc : touch o = true → ∀ k, isNm o k → fresh k σ = true → fresh k σ' = true)
    (h : outD P Γ fz o g σ = some r) : outD P Γ fz o g σ' = some r := by
  simp only [outD, Option.map_eq_some_iff] at h ⊢
  obtain ⟨out, h1, h2⟩ := h
  unfold outOf at h1 ⊢
  cases hco : callOf o with
  | some fa =>
    obtain ⟨f, as⟩ := fa
    simp only [hco] at h1 ⊢
    have hop : ∀ x ∈ as, x ∈ o.op.operands := by
      unfold callOf at hco
      split at hco
      · rename_i f' as' ts ho
        simp only [Option.some.injEq, Prod.mk.injEq] at hco
        obtain ⟨_, rfl⟩ := hco
        intro x hx
        rw [ho]
        simp only [Op.operands, Call.operands]
        simp [Array.mem_toList_iff.1 hx]
      · cases hco
    have ht : touch o = true := by
      unfold callOf at hco
      split at hco
      · rename_i f' as' ts ho
        simp [touch, ho]
      · cases hco
    have hb := hb ht
    have hc := hc ht
    have hmap : as.map (opnd σ.e) = as.map (opnd σ'.e) := List.map_congr_left fun x hx => ha x (hop x hx)
    split at h1
    · rename_i d hd
      cases hfn : isFn P f
      · simp only [hfn, cond_false] at h1 ⊢
        rw [← hmap]
        exact ⟨out, h1, h2⟩
      · simp only [hfn, cond_true] at h1 ⊢
        refine ⟨out, ?_, h2⟩
        rw [← hmap]
        refine vCall_local (fun a hm k hk => ?_) hc hd h1
        simp only [List.mem_map] at hm
        obtain ⟨x, hx, rfl⟩ := hm
        exact hb x (hop x hx) k hk
    · cases h1
  | none =>
    simp only [hco] at h1 ⊢
    have hclo : cloOf σ'.e o = cloOf σ.e o := by
      unfold cloOf
      split
      · rename_i t args ts ho
        have : get σ'.e t = get σ.e t := (ha (.tmp t) (by rw [ho]; simp [Op.operands, Call.operands])).symm
        rw [this]
      · rfl
    rw [hclo]
    cases hcl : cloOf σ.e o with
    | some fa =>
      obtain ⟨f, as, t, l⟩ := fa
      simp only [hcl] at h1 ⊢
      obtain ⟨args, ts, ho, rfl, hv⟩ := cloOf_some hcl
      have hop : ∀ x ∈ args.toList, x ∈ o.op.operands := by
        intro x hx
        rw [ho]
        simp only [Op.operands, Call.operands]
        simp [Array.mem_toList_iff.1 hx]
      have ht : touch o = true := by simp [touch, ho]
      have htm : Operand.tmp t ∈ o.op.operands := by rw [ho]; simp [Op.operands, Call.operands]
      have hmap : args.toList.map (opnd σ.e) = args.toList.map (opnd σ'.e) := List.map_congr_left fun x hx => ha x (hop x hx)
      have hgt : get σ'.e t = get σ.e t := (ha (.tmp t) htm).symm
      rw [← hmap, hgt]
      split at h1
      · rename_i d hd
        cases hfn : isFn P f
        · simp [hfn] at h1
        · simp only [hfn, cond_true] at h1 ⊢
          cases hcv : vCall P Γ (fz.contains d) d f g σ (args.toList.map (opnd σ.e) ++ l) with
          | none => rw [hcv] at h1; simp [addS] at h1
          | some y =>
            rw [hcv] at h1
            rw [vCall_local (fun a hm k hk => ?_) (hc ht) hd hcv]
            · exact ⟨out, h1, h2⟩
            · simp only [List.mem_append, List.mem_map] at hm
              rcases hm with ⟨x, hx, rfl⟩ | hm
              · exact hb ht x (hop x hx) k hk
              · refine hb ht (.tmp t) htm k ?_
                rcases hv with hv | ⟨rfl, _⟩
                · refine refs_sp ?_
                  show (sp (get σ.e t)).refs k = true
                  rw [hv]
                  simp only [AV.refs]
                  exact refsL_mem hm hk
                · cases hm
      · cases h1
    | none =>
    simp only [hcl] at h1 ⊢
    have hmk : ∀ {x y : Option Out}, x = y → x = some out → ∃ a, y = some a ∧ (⟨a.av, a.hp, a.side⟩ : OutD) = r := fun e he => ⟨out, by rw [← e]; exact he, h2⟩
    unfold opV at h1 ⊢
    split at h1
    · rename_i x ho
      simp only [ho, Op.operands] at ha ⊢
      exact hmk (by rw [ha x (by simp)]) h1
    · rename_i x ho
      simp only [ho, Op.operands] at ha ⊢
      exact hmk (by rw [ha x (by simp)]) h1
    · rename_i c x y ho
      simp only [ho, Op.operands] at ha ⊢
      exact hmk (by rw [ha c (by simp), ha x (by simp), ha y (by simp)]) h1
    · rename_i T ho
      split at h1
      · rename_i d hd
        exact ⟨out, vAlloc_local (hc (by simp [touch, ho]) d ⟨d, hd, .inl rfl⟩) h1, h2⟩
      · cases h1
    · rename_i T x ho
      split at h1
      · rename_i d hd
        simp only [ho, Op.operands] at ha
        rw [← ha x (by simp)]
        exact ⟨out, vBox_local (hc (by simp [touch, ho]) d ⟨d, hd, .inl rfl⟩) h1, h2⟩
      · cases h1
    · rename_i T ps ho
      simp only [ho, Op.operands] at ha ⊢
      exact hmk (by rw [partsA_congr fun p hp => ha p.2 (by simp; exact ⟨p.1, by simpa using hp⟩)]) h1
    · rename_i T len ps ho
      split at h1
      · rename_i d hd
        simp only [ho, Op.operands] at ha
        rw [← partsA_congr fun p hp => ha p.2 (by simp; exact ⟨p.1, by simpa using hp⟩)]
        exact ⟨out, vBuildS_local (hc (by simp [touch, ho]) d ⟨d, hd, .inl rfl⟩) h1, h2⟩
      · cases h1
    · rename_i T x ho
      have ht0 : touch o = true := by simp [touch, ho]
      simp only [ho, Op.operands] at ha hb ⊢
      exact hmk (by rw [vLoad_local (hb ht0 x (by simp)), ha x (by simp)]) h1
    · rename_i T x y ho
      have ht0 : touch o = true := by simp [touch, ho]
      simp only [ho, Op.operands] at ha hb ⊢
      exact hmk (by rw [vStore_local (hb ht0 x (by simp)), ha x (by simp), ha y (by simp)]) h1
    · rename_i op T x y T' ho
      simp only [ho, Op.operands] at ha ⊢
      exact hmk (by rw [ha x (by simp), ha y (by simp)]) h1
    · rename_i op T x ho
      simp only [ho, Op.operands] at ha ⊢
      exact hmk (by rw [ha x (by simp)]) h1
    · rename_i s t x ho
      simp only [ho, Op.operands] at ha ⊢
      exact hmk (by rw [ha x (by simp)]) h1
    · rename_i T x y ho
      split at h1
      · rename_i d hd
        simp only [ho, Op.operands] at ha
        rw [← ha x (by simp), ← ha y (by simp)]
        exact ⟨out, vMake_local (hc (by simp [touch, ho]) d ⟨d, hd, .inl rfl⟩) h1, h2⟩
      · cases h1
    · rename_i T x lo hi ho
      simp only [ho, Op.operands] at ha ⊢
      have e1 : lo.map (opnd σ.e) = lo.map (opnd σ'.e) := by
        cases lo with
        | none => rfl
        | some p => simp only [Option.map_some]; rw [ha p (by simp)]
      have e2 : hi.map (opnd σ.e) = hi.map (opnd σ'.e) := by
        cases hi with
        | none => rfl
        | some p => simp only [Option.map_some]; rw [ha p (by simp)]
      exact hmk (by rw [ha x (by simp), e1, e2]) h1
    · rename_i T x f ho
      simp only [ho, Op.operands] at ha ⊢
      exact hmk (by rw [ha x (by simp)]) h1
    · rename_i T x y ho
      simp only [ho, Op.operands] at ha ⊢
      exact hmk (by rw [ha x (by simp), ha y (by simp)]) h1
    · rename_i x i ho
      simp only [ho, Op.operands] at ha ⊢
      exact hmk (by rw [ha x (by simp)]) h1
    · rename_i as ts ho
      simp only [ho, Op.operands, Call.operands] at ha ⊢
      split at h1
      · rename_i x T e1 e2
        have hx : opnd σ.e x = opnd σ'.e x := ha x (by simp [arr_one e1])
        rw [← hx]
        unfold vLen at h1 ⊢
        split at h1
        · cases h1
        · split at h1
          · rename_i nm oo m n hs
            simp only [Option.some.injEq] at h1
            subst h1
            exact ⟨_, rfl, h2⟩
          · rename_i n l hs
            simp only [Option.some.injEq] at h1
            subst h1
            exact ⟨_, rfl, h2⟩
          · rename_i b n c hs
            simp only [Option.some.injEq] at h1
            subst h1
            exact ⟨_, rfl, h2⟩
          · cases h1
      · cases h1
    · rename_i as ts ho
      simp only [ho, Op.operands, Call.operands] at ha ⊢
      exact hmk (by rw [List.map_congr_left fun x hx => ha x (by simp [Array.mem_toList_iff.1 hx])]) h1
    · rename_i as ts ho
      simp only [ho, Op.operands, Call.operands] at ha ⊢
      exact hmk (by rw [List.map_congr_left fun x hx => ha x (by simp [Array.mem_toList_iff.1 hx])]) h1
    · rename_i as ts ho
      have ht0 : touch o = true := by simp [touch, ho]
      simp only [ho, Op.operands, Call.operands] at ha hb ⊢
      split at h1
      · rename_i x y T T' d e1 e2 hd
        have mx : x ∈ (#[] ++ as : Array Operand) := by simp [arr_one e1]
        have my : y ∈ (#[] ++ as : Array Operand) := by simp [arr_one e1]
        cases ht : T == T'
        · simp [ht] at h1
        · simp only [ht, cond_true] at h1 ⊢
          rw [← ha x mx, ← ha y my]
          exact ⟨out, vApp_local (hb ht0 x mx) (hb ht0 y my) (hc ht0 d ⟨d, hd, .inl rfl⟩) h1, h2⟩
      · cases h1
    · rename_i T x y ho
      simp only [ho, Op.operands] at ha ⊢
      exact hmk (by rw [ha x (by simp), ha y (by simp)]) h1
    · rename_i x ho
      simp only [ho, Op.operands] at ha ⊢
      exact hmk (by rw [ha x (by simp)]) h1
    · rename_i T x f ho
      simp only [ho, Op.operands] at ha ⊢
      exact hmk (by rw [ha x (by simp)]) h1
    · rename_i fn fs cs ho
      simp only [ho, Op.operands] at ha ⊢
      have : cs.toList.map (opnd σ.e) = cs.toList.map (opnd σ'.e) := List.map_congr_left fun x hx => ha x (by simp [Array.mem_toList_iff.1 hx])
      exact hmk (by rw [this]) h1
    · cases h1

mutual
theorem inst_within : ∀ (r : RV) (k j : Nat), (inst k r).1.refs j = true → k ≤ j ∧ j < (inst k r).2.2
  | .dat d, k, j, h => by simp [inst, AV.refs] at h
  | .own T n l, k, j, h => by simp only [inst, AV.refs, beq_iff_eq] at h ⊢; omega
  | .agg l, k, j, h => by
    simp only [inst] at h ⊢
    exact insts_within l k j (refsL_mkAgg h)
  | .tup l, k, j, h => by
    simp only [inst, AV.refs] at h ⊢
    exact insts_within l k j h
theorem insts_within : ∀ (l : List RV) (k j : Nat), AV.refsL j (insts k l).1 = true → k ≤ j ∧ j < (insts k l).2.2
  | [], k, j, h => by simp [insts, AV.refsL] at h
  | r :: l, k, j, h => by
    simp only [insts, AV.refsL, Bool.or_eq_true] at h ⊢
    have h1 := inst_mono r k
    have h2 := insts_mono l (inst k r).2.2
    rcases h with h | h
    · have := inst_within r k j h; omega
    · have := insts_within l _ j h; omega
theorem inst_mono : ∀ (r : RV) (k : Nat), k ≤ (inst k r).2.2
  | .dat d, k => Nat.le_refl _
  | .own T n l, k => by simp [inst]
  | .agg l, k => by simp only [inst]; exact insts_mono l k
  | .tup l, k => by simp only [inst]; exact insts_mono l k
theorem insts_mono : ∀ (l : List RV) (k : Nat), k ≤ (insts k l).2.2
  | [], k => Nat.le_refl _
  | r :: l, k => by
    simp only [insts]
    exact Nat.le_trans (inst_mono r k) (insts_mono l _)
end

mutual
theorem inst_names : ∀ (r : RV) (k m : Nat) (x : Option (Bool × Ent)), (m, x) ∈ (inst k r).2.1 → k ≤ m ∧ m < (inst k r).2.2 ∧ ∃ b T n l, x = some (b, .arr T n l)
  | .dat d, k, m, x, h => by simp [inst] at h
  | .own T n l, k, m, x, h => by
    simp only [inst, List.mem_singleton, Prod.mk.injEq] at h ⊢
    exact ⟨by omega, by omega, true, T, n, l, h.2⟩
  | .agg l, k, m, x, h => by simp only [inst] at h ⊢; exact insts_names l k m x h
  | .tup l, k, m, x, h => by simp only [inst] at h ⊢; exact insts_names l k m x h
theorem insts_names : ∀ (l : List RV) (k m : Nat) (x : Option (Bool × Ent)), (m, x) ∈ (insts k l).2.1 → k ≤ m ∧ m < (insts k l).2.2 ∧ ∃ b T n l, x = some (b, .arr T n l)
  | [], k, m, x, h => by simp [insts] at h
  | r :: l, k, m, x, h => by
    simp only [insts, List.mem_append] at h ⊢
    have h1 := inst_mono r k
    have h2 := insts_mono l (inst k r).2.2
    rcases h with h | h
    · obtain ⟨q1, q2, q3⟩ := insts_names l _ m x h; exact ⟨by omega, q2, q3⟩
    · obtain ⟨q1, q2, q3⟩ := inst_names r k m x h; exact ⟨q1, by omega, q3⟩
end

mutual
theorem still_refs : ∀ (r : RV) (j : Nat), (still r).refs j = false
  | .dat d, j => by simp [still, AV.refs]
  | .own T n l, j => by simp [still, AV.refs]
  | .agg l, j => by
    simp only [still]
    cases h : (mkAgg (stills l)).refs j
    · rfl
    · have := refsL_mkAgg h
      rw [stills_refs l j] at this; cases this
  | .tup l, j => by simp only [still, AV.refs]; exact stills_refs l j
theorem stills_refs : ∀ (l : List RV) (j : Nat), AV.refsL j (stills l) = false
  | [], j => by simp [stills, AV.refsL]
  | r :: l, j => by simp [stills, AV.refsL, still_refs r j, stills_refs l j]
end

theorem refsL_get {j : Nat} : ∀ {l : List AV} {i : Nat} {a : AV}, AV.refsL j l = false → l[i]? = some a → a.refs j = false
  | [], i, a, _, h => by simp at h
  | b :: l, 0, a, hl, h => by simp only [AV.refsL, Bool.or_eq_false_iff] at hl; simp at h; subst h; exact hl.1
  | b :: l, i + 1, a, hl, h => by simp only [AV.refsL, Bool.or_eq_false_iff] at hl; exact refsL_get hl.2 (by simpa using h)
theorem refsL_take {j : Nat} : ∀ {l : List AV} (i : Nat), AV.refsL j l = false → AV.refsL j (l.take i) = false
  | [], i, _ => by simp [AV.refsL]
  | b :: l, 0, _ => by simp [AV.refsL]
  | b :: l, i + 1, hl => by simp only [AV.refsL, Bool.or_eq_false_iff, List.take_succ_cons] at hl ⊢; exact ⟨hl.1, refsL_take i hl.2⟩
theorem refsL_drop {j : Nat} : ∀ {l : List AV} (i : Nat), AV.refsL j l = false → AV.refsL j (l.drop i) = false
  | [], i, _ => by simp [AV.refsL]
  | b :: l, 0, h => by simpa using h
  | b :: l, i + 1, hl => by simp only [AV.refsL, Bool.or_eq_false_iff] at hl; simpa using refsL_drop i hl.2
theorem refsL_append {j : Nat} : ∀ {l l' : List AV}, AV.refsL j l = false → AV.refsL j l' = false → AV.refsL j (l ++ l') = false
  | [], l', _, h => by simpa using h
  | b :: l, l', hl, h => by
    simp only [AV.refsL, Bool.or_eq_false_iff, List.cons_append] at hl ⊢
    exact ⟨hl.1, refsL_append hl.2 h⟩
theorem refsL_spl {j o : Nat} {l xs : List AV} (h : AV.refsL j l = false) (hx : AV.refsL j xs = false) : AV.refsL j (spl l o xs) = false :=
  refsL_append (refsL_append (refsL_take _ h) hx) (refsL_drop _ h)
theorem refsL_dat {j : Nat} : ∀ {l : List D}, AV.refsL j (l.map AV.dat) = false
  | [] => rfl
  | d :: l => by simp [AV.refsL, AV.refs, refsL_dat (l := l)]
theorem mkAgg_refs {j : Nat} {l : List AV} (h : AV.refsL j l = false) : (mkAgg l).refs j = false := by
  cases hm : (mkAgg l).refs j
  · rfl
  · rw [refsL_mkAgg hm] at h; cases h
theorem bld_refs {j : Nat} {pl : Nat → Option (Nat × Nat)} : ∀ {ps : List (Nat × AV)} {l l' : List AV}, (∀ p ∈ ps, p.2.refs j = false) → AV.refsL j l = false → bld pl ps l = some l' → AV.refsL j l' = false
  | [], l, l', _, hl, h => by simp only [bld, Option.some.injEq] at h; subst h; exact hl
  | (i, x) :: ps, l, l', hp, hl, h => by
    simp only [bld] at h
    split at h
    · cases h
    · rename_i off size _
      split at h
      · cases h
      · rename_i cs hcs
        cases hb : (cs.length == size && decide (off + size ≤ l.length))
        · simp [hb] at h
        · simp only [hb, cond_true] at h
          exact bld_refs (fun p hp' => hp p (by simp [hp'])) (refsL_spl hl (cellsOf_refs hcs (sp_refs (hp (i, x) (by simp))))) h
end
end Go.Eng

namespace Go.Eng
open Go.RowKit

def hpFree (k : Nat) (h : Hp) : Bool := h.all fun p => match p.2 with
  | none => true
  | some x => !x.2.refs k

section
variable {P : Program} {σ σ' : St} {o : Oper} {g : Bool}

theorem fresh_geth {k nm : Nat} {b : Bool} {x : Ent} (hf : fresh k σ = true) (h : geth σ.h nm = some (b, x)) : x.refs k = false := by
  simp only [fresh, Bool.and_eq_true] at hf
  exact geth_refs hf.2 h

theorem rdA_refs {k sz : Nat} {ag : Bool} {c : List AV} {r : AV} (hc : AV.refsL k c = false) (h : rdA sz ag c = some r) : r.refs k = false := by
  unfold rdA at h
  cases ag
  · simp only [cond_false] at h; exact refsL_get hc h
  · simp only [cond_true] at h
    cases hb : decide (sz ≤ c.length)
    · simp [hb] at h
    · simp only [hb, cond_true, Option.some.injEq] at h; subst h
      exact mkAgg_refs (refsL_take _ hc)
theorem rdD_refs {k sz : Nat} {ag : Bool} {c : List D} {r : AV} (h : rdD sz ag c = some r) : r.refs k = false := by
  unfold rdD at h
  cases ag
  · simp only [cond_false] at h
    split at h
    · simp only [Option.some.injEq] at h; subst h; rfl
    · cases h
  · simp only [cond_true] at h
    cases hb : decide (sz ≤ c.length)
    · simp [hb] at h
    · simp only [hb, cond_true, Option.some.injEq] at h; subst h; rfl

theorem opV_refs {fz : Bool} {out : Out} {k : Nat} (h : opV P fz o g σ = some out) (hf : fresh k σ = true) (hn : ¬ isNm o k) : out.av.refs k = false ∧ hpFree k out.hp = true := by
  have hop : ∀ x, (opnd σ.e x).refs k = false := opnd_refs hf
  have hsp : ∀ x, (sp (opnd σ.e x)).refs k = false := fun x => sp_refs (hop x)
  have hne : ∀ d, o.dst = some d → (d == k) = false := fun d hd => by
    simp only [beq_eq_false_iff_ne]; intro e; exact hn ⟨d, hd, .inl e.symm⟩
  unfold opV at h
  split at h
  · simp only [Option.some.injEq] at h; subst h; exact ⟨hop _, rfl⟩
  · simp only [Option.some.injEq] at h; subst h; exact ⟨hop _, rfl⟩
  · unfold vPick at h
    split at h
    · simp only [Option.some.injEq] at h; subst h; exact ⟨rfl, rfl⟩
    · cases h
  · split at h
    · rename_i d hd
      unfold vAlloc at h
      split at h
      · cases hfr : fresh d σ
        · simp [hfr] at h
        · simp only [hfr, cond_true, Option.some.injEq] at h; subst h
          exact ⟨by simp [AV.refs]; simpa using hne d hd, by simp [hpFree, Ent.refs, refsL_dat]⟩
      · cases h
    · cases h
  · split at h
    · rename_i d hd
      unfold vBox at h
      split at h
      · rename_i c hc
        cases hfr : fresh d σ
        · simp [hfr] at h
        · simp only [hfr, cond_true, Option.some.injEq] at h; subst h
          exact ⟨by simp [AV.refs]; simpa using hne d hd, by simp [hpFree, Ent.refs, cellsOf_refs hc (hsp _)]⟩
      · cases h
    · cases h
  · rename_i T ps _
    unfold vBuild at h
    split at h
    · split at h
      · rename_i l hb
        simp only [Option.some.injEq] at h; subst h
        refine ⟨mkAgg_refs (bld_refs (fun p hp => ?_) refsL_dat hb), rfl⟩
        simp only [partsA, List.mem_map] at hp
        obtain ⟨q, _, rfl⟩ := hp
        exact hop q.2
      · cases h
    · cases h
  · split at h
    · rename_i d hd
      unfold vBuildS at h
      split at h
      · cases h
      · split at h
        · cases h
        · simp only [Bool.cond_eq_ite] at h
          split at h
          · split at h
            · cases h
            · split at h
              · simp only [Option.some.injEq] at h; subst h; exact ⟨rfl, rfl⟩
              · split at h
                · simp only [Option.some.injEq] at h; subst h
                  exact ⟨by simp [AV.refs]; simpa using hne d hd, by simp [hpFree, Ent.refs]⟩
                · cases h
          · cases h
    · cases h
  · rename_i T x _
    unfold vLoad at h
    split at h
    · cases h
    · split at h
      · split at h
        · rename_i hg
          split at h
          · rename_i r hr
            simp only [Option.some.injEq] at h; subst h
            refine ⟨rdA_refs (refsL_drop _ ?_) hr, rfl⟩
            exact fresh_geth hf hg
          · cases h
        · cases h
      · split at h
        · rename_i r hr
          simp only [Option.some.injEq] at h; subst h
          exact ⟨rdD_refs hr, rfl⟩
        · cases h
      · split at h
        · split at h
          · rename_i r hr
            simp only [Bool.cond_eq_ite] at h
            split at h
            · simp only [Option.some.injEq] at h; subst h
              exact ⟨rdD_refs hr, rfl⟩
            · cases h
          · cases h
        · cases h
      · split at h
        · rename_i r hr
          simp only [Option.some.injEq] at h; subst h
          exact ⟨rdD_refs hr, rfl⟩
        · cases h
      · cases h
  · rename_i T x y _
    unfold vStore at h
    split at h
    · rename_i sz _ cs _ hcs
      simp only [Bool.cond_eq_ite] at h
      split at h
      · split at h
        · split at h
          · rename_i hg
            split at h
            · simp only [Option.some.injEq] at h; subst h
              exact ⟨rfl, by simp [hpFree, Ent.refs, refsL_spl (fresh_geth hf hg) (cellsOf_refs hcs (hsp y))]⟩
            · cases h
          · cases h
        · split at h
          · split at h
            · simp only [Option.some.injEq] at h; subst h
              exact ⟨rfl, by simp [hpFree, Ent.refs]⟩
            · cases h
          · cases h
        · cases h
      · cases h
    · cases h
  · unfold vBin at h
    simp only [Bool.cond_eq_ite] at h
    repeat' (split at h)
    all_goals (first | (cases h; done) | (simp only [Option.some.injEq] at h; subst h; exact ⟨rfl, rfl⟩))
  · unfold vUn at h
    split at h
    · simp only [Option.some.injEq] at h; subst h; exact ⟨rfl, rfl⟩
    · simp only [Option.some.injEq] at h; subst h; exact ⟨rfl, rfl⟩
    · cases h
  · unfold vConv at h
    simp only [Bool.cond_eq_ite] at h
    repeat' (split at h)
    all_goals (first | (cases h; done) | (simp only [Option.some.injEq] at h; subst h; exact ⟨rfl, rfl⟩))
  · split at h
    · rename_i d hd
      unfold vMake at h
      simp only [Bool.cond_eq_ite] at h
      repeat' (split at h)
      all_goals (first | (cases h; done) | (simp only [Option.some.injEq] at h; subst h; exact ⟨rfl, rfl⟩) | (simp only [Option.some.injEq] at h; subst h; exact ⟨by simp [AV.refs]; simpa using hne d hd, by simp [hpFree, Ent.refs]⟩))
    · cases h
  · rename_i T x lo hi _
    unfold vSlice at h
    split at h
    · split at h
      · rename_i nm oo m n hx
        have hnm : (nm == k) = false := by have := hsp x; rw [hx] at this; simpa only [AV.refs] using this
        split at h
        · simp only [Bool.cond_eq_ite] at h
          split at h
          · simp only [Option.some.injEq] at h; subst h; exact ⟨by simpa only [AV.refs] using hnm, rfl⟩
          · cases h
        · cases h
      · split at h
        · simp only [Bool.cond_eq_ite] at h
          split at h
          · simp only [Option.some.injEq] at h; subst h; exact ⟨rfl, rfl⟩
          · cases h
        · cases h
      · cases h
    · cases h
  · rename_i T x f _
    unfold vFld at h
    split at h
    · cases h
    · simp only [Bool.cond_eq_ite] at h
      split at h
      · cases h
      · split at h
        · rename_i nm oo hx
          have := hsp x; rw [hx] at this
          simp only [Option.some.injEq] at h; subst h; exact ⟨by simpa only [AV.refs] using this, rfl⟩
        · rename_i nm k f n hx
          have := hsp x; rw [hx] at this
          simp only [Option.some.injEq] at h; subst h; exact ⟨by simpa only [AV.refs] using this, rfl⟩
        · simp only [Option.some.injEq] at h; subst h; exact ⟨rfl, rfl⟩
        · simp only [Option.some.injEq] at h; subst h; exact ⟨rfl, rfl⟩
        · cases h
  · rename_i T x y _
    unfold vIdx at h
    split at h
    · cases h
    · split at h
      · rename_i nm oo m n hx
        have := hsp x; rw [hx] at this
        simp only [Bool.cond_eq_ite] at h
        repeat' (split at h)
        all_goals (first | (cases h; done) | (simp only [Option.some.injEq] at h; subst h; exact ⟨by simpa only [AV.refs] using this, rfl⟩))
      · simp only [Bool.cond_eq_ite] at h
        repeat' (split at h)
        all_goals (first | (cases h; done) | (simp only [Option.some.injEq] at h; subst h; exact ⟨rfl, rfl⟩))
      · rename_i nm oo hx
        have := hsp x; rw [hx] at this
        simp only [Bool.cond_eq_ite] at h
        repeat' (split at h)
        all_goals (first | (cases h; done) | (simp only [Option.some.injEq] at h; subst h; exact ⟨by simpa only [AV.refs] using this, rfl⟩))
      · cases h
  · rename_i x i _
    unfold vExtr at h
    split at h
    · rename_i l hx
      have := hsp x; rw [hx] at this
      split at h
      · rename_i a ha
        simp only [Option.some.injEq] at h; subst h
        exact ⟨refsL_get (by simpa only [AV.refs] using this) ha, rfl⟩
      · cases h
    · cases h
  · split at h
    · unfold vLen at h
      repeat' (split at h)
      all_goals (first | (cases h; done) | (simp only [Option.some.injEq] at h; subst h; exact ⟨rfl, rfl⟩))
    · cases h
  · unfold vMin at h
    repeat' (split at h)
    all_goals (first | (cases h; done) | (simp only [Option.some.injEq] at h; subst h; exact ⟨rfl, rfl⟩))
  · unfold vMax at h
    repeat' (split at h)
    all_goals (first | (cases h; done) | (simp only [Option.some.injEq] at h; subst h; exact ⟨rfl, rfl⟩))
  · split at h
    · rename_i x y T T' d _ _ hd
      simp only [Bool.cond_eq_ite] at h
      split at h
      · unfold vApp at h
        split at h
        · cases h
        · split at h
          · cases h
          · simp only [Bool.cond_eq_ite] at h
            split at h
            · split at h
              · rename_i nm l s1 l' s2 _ _
                simp only [Option.some.injEq] at h; subst h
                refine ⟨by simp [AV.refs]; simpa using hne d hd, ?_⟩
                cases nm <;> simp [hpFree, Ent.refs]
              · cases h
            · cases h
      · cases h
    · cases h
  · unfold vIndex at h
    repeat' (split at h)
    all_goals (try simp only [Bool.cond_eq_ite] at h)
    all_goals (repeat' (split at h))
    all_goals (first | (cases h; done) | (simp only [Option.some.injEq] at h; subst h; exact ⟨rfl, rfl⟩))
  · rename_i x _
    unfold vNil at h
    split at h
    · rename_i nm oo hx
      have := hsp x; rw [hx] at this
      simp only [Option.some.injEq] at h; subst h; exact ⟨this, rfl⟩
    · simp only [Option.some.injEq] at h; subst h; exact ⟨rfl, rfl⟩
    · simp only [Option.some.injEq] at h; subst h; exact ⟨rfl, rfl⟩
    · cases h
  · unfold vFieldV at h
    repeat' (split at h)
    all_goals (try simp only [Bool.cond_eq_ite] at h)
    all_goals (repeat' (split at h))
    all_goals (first | (cases h; done) | (simp only [Option.some.injEq] at h; subst h; exact ⟨rfl, rfl⟩))
  · rename_i fn fs cs _
    unfold vFunc at h
    split at h
    · simp only [Option.some.injEq] at h; subst h
      refine ⟨?_, rfl⟩
      simp only [AV.refs]
      generalize cs.toList = l
      induction l with
      | nil => rfl
      | cons x l ih => simp only [List.map_cons, AV.refsL, hop x, ih, Bool.or_self]
    · cases h
  · cases h

theorem vCall_refs {Γ : FuncId → List D → RV} {fz : Bool} {d f : Nat} {as : List AV} {out : Out} {k : Nat} (h : vCall P Γ fz d f g σ as = some out) (hd : o.dst = some d) (hn : ¬ isNm o k) : out.av.refs k = false ∧ hpFree k out.hp = true := by
  unfold vCall at h
  split at h
  · cases h
  · rename_i ds p _
    split at h
    · unfold vCallM at h
      split at h
      · simp only [Option.some.injEq] at h; subst h
        exact ⟨rfl, rfl⟩
      · cases h
    unfold vCallR at h
    simp only [Bool.cond_eq_ite] at h
    split at h
    · simp only [Option.some.injEq] at h; subst h
      exact ⟨still_refs _ _, rfl⟩
    · split at h
      · rename_i hfr
        simp only [Bool.and_eq_true, decide_eq_true_eq] at hfr
        simp only [Option.some.injEq] at h; subst h
        constructor
        · cases hr : (inst (10000 + 100 * d) _).1.refs k with
          | false => rfl
          | true =>
            have := inst_within _ _ _ hr
            exact absurd ⟨d, hd, .inr ⟨this.1, by omega⟩⟩ hn
        · simp only [hpFree, List.all_eq_true]
          intro q hq
          obtain ⟨m, x⟩ := q
          obtain ⟨_, _, b, T, n, l, rfl⟩ := inst_names _ _ m x hq
          simp [Ent.refs]
      · cases h

theorem vCall_names {Γ : FuncId → List D → RV} {fz : Bool} {d f : Nat} {as : List AV} {out : Out} (h : vCall P Γ fz d f g σ as = some out) (hd : o.dst = some d) : ∀ m x, (m, x) ∈ out.hp → isNm o m ∧ fresh m σ = true := by
  unfold vCall at h
  split at h
  · cases h
  · rename_i ds p _
    split at h
    · unfold vCallM at h
      split at h
      · simp only [Option.some.injEq] at h; subst h; simp
      · cases h
    unfold vCallR at h
    simp only [Bool.cond_eq_ite] at h
    split at h
    · simp only [Option.some.injEq] at h; subst h; simp
    · split at h
      · rename_i hfr
        simp only [Bool.and_eq_true, decide_eq_true_eq] at hfr
        simp only [Option.some.injEq] at h; subst h
        intro m x hmx
        obtain ⟨q1, q2, _⟩ := inst_names _ _ m x hmx
        exact ⟨⟨d, hd, .inr ⟨q1, by omega⟩⟩, freshR_spec hfr.1 q1 (by omega)⟩
      · cases h
theorem addS_some {p : Prop} {x : Option Out} {out : Out} (h : addS p x = some out) : ∃ y, x = some y ∧ out.av = y.av ∧ out.hp = y.hp := by
  cases x with
  | none => simp [addS] at h
  | some y =>
    simp only [addS, Option.some.injEq] at h; subst h
    exact ⟨y, rfl, rfl, rfl⟩

theorem outOf_refs {Γ : FuncId → List D → RV} {fz : List Nat} {out : Out} {k : Nat} (h : outOf P Γ fz o g σ = some out) (hf : fresh k σ = true) (hn : ¬ isNm o k) : out.av.refs k = false ∧ hpFree k out.hp = true := by
  unfold outOf at h
  split at h
  · split at h
    · rename_i d hd
      simp only [Bool.cond_eq_ite] at h
      split at h
      · exact vCall_refs h hd hn
      · unfold vExt at h
        split at h
        · split at h
          · simp only [Option.some.injEq] at h; subst h; exact ⟨rfl, rfl⟩
          · cases h
        · cases h
    · cases h
  · split at h
    · split at h
      · rename_i d hd
        simp only [Bool.cond_eq_ite] at h
        split at h
        · obtain ⟨y, hy, e1, e2⟩ := addS_some h
          rw [e1, e2]
          exact vCall_refs hy hd hn
        · cases h
      · cases h
    · exact opV_refs h hf hn

theorem dst_dat {T n : Nat} {g : Bool} {h : Hp} {d : D} {nm : Option Nat} {l : List (List D)} {s : Prop} (e : dstOf T n g h (.dat d) = some (nm, l, s)) : nm = none := by
  unfold dstOf at e
  simp only [sp] at e
  split at e
  · rename_i hh; cases hh
  · simp only [Option.some.injEq, Prod.mk.injEq] at e; exact e.1.symm
  · cases e
theorem outOf_names {Γ : FuncId → List D → RV} {fz : List Nat} {out : Out} (h : outOf P Γ fz o g σ = some out) (hm : muts o = false) : ∀ m x, (m, x) ∈ out.hp → isNm o m ∧ fresh m σ = true := by
  unfold outOf at h
  split at h
  · split at h
    · rename_i d hd
      simp only [Bool.cond_eq_ite] at h
      split at h
      · exact vCall_names h hd
      · unfold vExt at h
        split at h
        · split at h
          · simp only [Option.some.injEq] at h; subst h; simp
          · cases h
        · cases h
    · cases h
  · split at h
    · split at h
      · rename_i d hd
        simp only [Bool.cond_eq_ite] at h
        split at h
        · obtain ⟨y, hy, e1, e2⟩ := addS_some h
          rw [e2]
          exact vCall_names hy hd
        · cases h
      · cases h
    unfold opV at h
    simp only [Bool.cond_eq_ite] at h
    split at h
    case h_4 =>
      split at h
      · rename_i d hd
        unfold vAlloc at h
        simp only [Bool.cond_eq_ite] at h
        repeat' (split at h)
        all_goals (first | (cases h; done) | (rename_i hfr; simp only [Option.some.injEq] at h; subst h; simp only [List.mem_singleton, Prod.mk.injEq]; rintro m x ⟨rfl, _⟩; exact ⟨⟨_, hd, .inl rfl⟩, hfr⟩))
      · cases h
    case h_5 =>
      split at h
      · rename_i d hd
        unfold vBox at h
        simp only [Bool.cond_eq_ite] at h
        repeat' (split at h)
        all_goals (first | (cases h; done) | (rename_i hfr; simp only [Option.some.injEq] at h; subst h; simp only [List.mem_singleton, Prod.mk.injEq]; rintro m x ⟨rfl, _⟩; exact ⟨⟨_, hd, .inl rfl⟩, hfr⟩))
      · cases h
    case h_7 =>
      split at h
      · rename_i d hd
        unfold vBuildS at h
        simp only [Bool.cond_eq_ite] at h
        repeat' (split at h)
        all_goals (first | (cases h; done) | (simp only [Option.some.injEq] at h; subst h; simp; done) | (rename_i hfr; simp only [Option.some.injEq] at h; subst h; simp only [List.mem_singleton, Prod.mk.injEq]; rintro m x ⟨rfl, _⟩; exact ⟨⟨_, hd, .inl rfl⟩, hfr⟩))
      · cases h
    case h_13 =>
      split at h
      · rename_i d hd
        unfold vMake at h
        simp only [Bool.cond_eq_ite] at h
        repeat' (split at h)
        all_goals (first | (cases h; done) | (simp only [Option.some.injEq] at h; subst h; simp; done) | (rename_i hfr; simp only [Option.some.injEq] at h; subst h; simp only [List.mem_singleton, Prod.mk.injEq]; rintro m x ⟨rfl, _⟩; exact ⟨⟨_, hd, .inl rfl⟩, hfr⟩))
      · cases h
    case h_9 ho => simp [muts, ho] at hm
    case h_21 as ts ho =>
      split at h
      · rename_i x y T T' d ha ht hd
        simp only [muts, ho, ha] at hm
        cases x with
        | const v =>
          try simp only [Bool.cond_eq_ite] at h
          split at h
          · unfold vApp at h
            simp only [Bool.cond_eq_ite, opnd] at h
            split at h
            · cases h
            · split at h
              · cases h
              · split at h
                · rename_i hfr
                  split at h
                  · rename_i nm l s1 l' s2 hd1 _
                    have := dst_dat hd1
                    subst this
                    simp only [Option.some.injEq] at h; subst h
                    simp only [List.mem_singleton, Prod.mk.injEq]
                    rintro m x ⟨rfl, _⟩
                    simp only [Bool.and_eq_true] at hfr
                    exact ⟨⟨_, hd, .inl rfl⟩, hfr.2⟩
                  · cases h
                · cases h
          · cases h
        | tmp t => simp [isK] at hm
        | func f => simp [isK] at hm
        | global f => simp [isK] at hm
      · cases h
    all_goals (first | (cases h; done) | (simp only [Option.some.injEq] at h; subst h; simp; done) | skip)
    all_goals (first | unfold vPick at h | unfold vBuild at h | unfold vLoad at h | unfold vBin at h | unfold vUn at h | unfold vConv at h | unfold vSlice at h | unfold vFld at h | unfold vIdx at h | unfold vExtr at h | unfold vMin at h | unfold vMax at h | unfold vLen at h | unfold vIndex at h | unfold vNil at h | unfold vFieldV at h | unfold vFunc at h)
    all_goals (try simp only [Bool.cond_eq_ite] at h)
    all_goals (repeat' (split at h))
    all_goals (first | (cases h; done) | (simp only [Option.some.injEq] at h; subst h; simp))
end
end Go.Eng

