import Derived.Test.YtfpimhkkknfmcaaEngD
namespace Go.Eng
open Go.RowKit

section
variable (P : Program)
/-- A type's size in cells, and whether it is a struct or an array. -/
def tyOf (T : Nat) : Option (Nat × Bool) :=
  match P.info? T, P.underlying T with
  | some i, some (.struct _) => some (i.size, true)
  | some i, some (.array ..) => some (i.size, true)
  | some i, some _ => some (i.size, false)
  | _, _ => none
end

def isI : AV → Option (IntKind × Int)
  | .dat (.i n) => some (.i64, n)
  | .dat (.v (.int k n)) => some (k, n)
  | _ => none

def binI (op : BinOp) (k : IntKind) (m n : Int) : Option (D × Prop) :=
  match op with
  | .add => some (dOf (.int k (k.wrap (m + n))), True)
  | .sub => some (dOf (.int k (k.wrap (m - n))), True)
  | .mul => some (dOf (.int k (k.wrap (m * n))), True)
  | .quo => some (dOf (.int k (k.wrap (m.tdiv n))), n ≠ 0)
  | .rem => some (dOf (.int k (m.tmod n)), n ≠ 0)
  | .and => some (dOf (.int k (bits .and k m n)), True)
  | .or => some (dOf (.int k (bits .or k m n)), True)
  | .xor => some (dOf (.int k (bits .xor k m n)), True)
  | .andNot => some (dOf (.int k (bits .andNot k m n)), True)
  | .eql => some (.b (m == n), True)
  | .neq => some (.b (m != n), True)
  | .lss => some (.b (decide (m < n)), True)
  | .leq => some (.b (decide (m ≤ n)), True)
  | .gtr => some (.b (decide (n < m)), True)
  | .geq => some (.b (decide (n ≤ m)), True)
  | _ => none

def shI (op : BinOp) (k : IntKind) (m n : Int) : Option (D × Prop) :=
  match op with
  | .shl => some (dOf (.int k (k.wrap (m * 2 ^ n.toNat))), 0 ≤ n ∧ n ≤ k.bits)
  | .shr => some (dOf (.int k (m / 2 ^ n.toNat)), 0 ≤ n ∧ n ≤ k.bits)
  | _ => none

def eqL : List D → List D → Option Bool
  | [], [] => some true
  | .i m :: l, .i n :: l' => (eqL l l').map fun r => (m == n) && r
  | _, _ => none

def eqFs (P : Program) : List Field → Nat → Bool
  | [], _ => true
  | f :: fs, k => f.name != "_" && f.offset == k && (match P.underlying f.type with | some (.int _) => true | _ => false) && eqFs P fs (k + 1)
/-- Two values of the type are held against each other number by number: how many. -/
def eqTy (P : Program) (T : Nat) : Option Nat :=
  match P.underlying T with
  | some (.struct fs) => bif eqFs P fs.toList 0 && !P.stoodInHeld T && !P.eqGuardType P.depth T then some fs.size else none
  | _ => none
def isBo (P : Program) (T : Nat) : Bool := match P.underlying T with
  | some .bool => true
  | _ => false

def notIf (op : BinOp) (r : Bool) : Option Bool := match op with
  | .eql => some r
  | .neq => some !r
  | _ => none

def vBin (P : Program) (op : BinOp) (T : Nat) (g : Bool) (x y : AV) : Option Out :=
  match isI (sp x), isI (sp y) with
  | some (k, m), some (k', n) =>
    match shI op k m n with
    | some (d, s) => some ⟨.dat d, [], pk g x ∧ pk g y ∧ s, True⟩
    | none => bif k == k' then (match binI op k m n with
      | some (d, s) => some ⟨.dat d, [], pk g x ∧ pk g y ∧ s, True⟩
      | none => none) else none
  | _, _ => match sp x, sp y with
    | .dat (.b m), .dat (.b n) => bif isBo P T then (match notIf op (m == n) with
      | some r => some ⟨.dat (.b r), [], pk g x ∧ pk g y, True⟩
      | none => none) else none
    | .dat (.agg l), .dat (.agg l') => match eqTy P T, eqL l l' with
      | some n, some r => bif n == l.length then (match notIf op r with
        | some r => some ⟨.dat (.b r), [], pk g x ∧ pk g y, True⟩
        | none => none) else none
      | _, _ => none
    | _, _ => none

def vUn (op : UnOp) (g : Bool) (x : AV) : Option Out :=
  match op, sp x with
  | .not, .dat (.b c) => some ⟨.dat (.b !c), [], pk g x, True⟩
  | .neg, .dat (.i n) => some ⟨.dat (.i (IntKind.i64.wrap (0 - n))), [], pk g x, True⟩
  | _, _ => none

def vPick (g : Bool) (c x y : AV) : Option Out :=
  match sp c, sp x, sp y with
  | .dat (.b cc), .dat (.b m), .dat (.b n) => some ⟨.dat (.b (bif cc then m else n)), [], pk g c ∧ pk (g && cc) x ∧ pk (g && !cc) y, True⟩
  | _, _, _ => none

def vConv (P : Program) (src dst : Nat) (g : Bool) (x : AV) : Option Out :=
  match isI (sp x), ikOf P dst with
  | some (_, n), some k => bif (P.underlying src).isSome then some ⟨.dat (dOf (.int k (k.wrap n))), [], pk g x, True⟩ else none
  | _, _ => none

def vExtr (g : Bool) (x : AV) (i : Nat) : Option Out :=
  match sp x with
  | .tup l => match l[i]? with
    | some a => some ⟨a, [], pk g x, True⟩
    | none => none
  | _ => none

/-- Cells read: of the type's size. -/
def rdA (sz : Nat) (ag : Bool) (c : List AV) : Option AV :=
  bif ag then (bif decide (sz ≤ c.length) then some (mkAgg (c.take sz)) else none) else c[0]?
def rdD (sz : Nat) (ag : Bool) (c : List D) : Option AV :=
  bif ag then (bif decide (sz ≤ c.length) then some (.dat (.agg (c.take sz))) else none) else (match c with | d :: _ => some (.dat d) | [] => none)

def elt (P : Program) (T : Nat) (l : List (List D)) (k : Nat) : List D := l.getD k ((zC P T).getD [])

def vLoad (P : Program) (T : Nat) (g : Bool) (h : Hp) (x : AV) : Option Out :=
  match tyOf P T with
  | none => none
  | some (sz, ag) => match sp x with
    | .pt nm o => match geth h nm with
      | some (g', .box _ c) => match rdA sz ag (c.drop o) with
        | some r => some ⟨r, [], pk g x ∧ (g = true → g' = true), True⟩
        | none => none
      | _ => none
    | .rp l => match rdD sz ag l with
      | some r => some ⟨r, [], pk g x, True⟩
      | none => none
    | .ep nm k f n => match geth h nm with
      | some (g', .arr T' n' l) => match rdD sz ag ((elt P T' l k).drop f) with
        | some r => bif n == n' then some ⟨r, [], pk g x ∧ (g = true → g' = true) ∧ k < l.length, True⟩ else none
        | none => none
      | _ => none
    | _ => none

def vFld (P : Program) (T : Nat) (g : Bool) (x : AV) (f : Nat) : Option Out :=
  match fldOf P T f with
  | none => none
  | some (off, t) => bif szOf P t == 0 then none else match sp x with
    | .pt nm o => some ⟨.pt nm (o + off), [], pk g x, True⟩
    | .ep nm k f n => some ⟨.ep nm k (f + off) n, [], pk g x, True⟩
    | .rp l => some ⟨.rp (l.drop off), [], pk g x, True⟩
    | _ => none

def vIdx (P : Program) (T : Nat) (g : Bool) (x y : AV) : Option Out :=
  match isI (sp y) with
  | none => none
  | some (_, i) => match sp x with
    | .vw nm o m n => match elOf P T with
      | some e => bif szOf P e == n && (P.info? e).isSome then some ⟨.ep nm (o + i.toNat) 0 n, [], pk g x ∧ pk g y ∧ 0 ≤ i ∧ i < m, True⟩ else none
      | none => none
    | .dat (.sl n l) => match elOf P T with
      | some e => bif szOf P e == n && (P.info? e).isSome then some ⟨.rp (elt P e l i.toNat), [], pk g x ∧ pk g y ∧ 0 ≤ i ∧ i < l.length, True⟩ else none
      | none => none
    | .pt nm o => match arOf P T with
      | some (len, e) => bif (P.info? e).isSome then some ⟨.pt nm (o + i.toNat * szOf P e), [], pk g x ∧ pk g y ∧ 0 ≤ i ∧ i < len, True⟩ else none
      | none => none
    | _ => none

/-- So many cells from there. -/
def cut (l : List D) (o : Nat) : Nat → List D
  | 0 => []
  | n + 1 => l.getD o (.i 0) :: cut l (o + 1) n
def vIndex (P : Program) (T : Nat) (g : Bool) (x y : AV) : Option Out :=
  match isI (sp y), sp x, arOf P T with
  | some (_, i), .dat (.agg ds), some (len, e) => match tyOf P e with
    | some (sz, ag) => bif ds.length == len * sz && (ag || sz == 1) then some ⟨.dat (bif ag then .agg (cut ds (i.toNat * sz) sz) else ds.getD (i.toNat * sz) (.i 0)), [], pk g x ∧ pk g y ∧ 0 ≤ i ∧ i < len, True⟩ else none
    | none => none
  | _, _, _ => none

/-- What is asked of an operation's result. -/
def Snd (C : Ctx) (o : Oper) (g : Bool) (σ : St) (out : Out) : Prop :=
  ∀ ι a w, SimI C σ ι a w → g = true → out.side →
    ∃ nx w' v, (execOp a.eval o).run C.P w = .ok nx w' ∧ (nx = .value v ∨ (nx = .skip ∧ v = undef)) ∧ out.know ∧
      ∃ ι', SimI C ⟨σ.e, out.hp ++ σ.h⟩ ι' a w' ∧ RepA (okOf (out.hp ++ σ.h) ι' w') ι' w' out.av v

section
variable {C : Ctx} {σ : St} {o : Oper} {g : Bool}

theorem Snd.pure {av : AV} {side know : Prop} (h : ∀ ι a w, SimI C σ ι a w → g = true → side → ∃ v, (execOp a.eval o).run C.P w = .ok (.value v) w ∧ know ∧ RepA (okOf σ.h ι w) ι w av v) :
    Snd C o g σ ⟨av, [], side, know⟩ := by
  intro ι a w S hg hs
  obtain ⟨v, h1, h2, h3⟩ := h ι a w S hg hs
  exact ⟨_, w, v, h1, .inl rfl, h2, ι, S, h3⟩

theorem isI_rep {ok : Nat → Prop} {ι : Nat → Option (Nat × Nat)} {w : World} {x : AV} {v : Value} {k : IntKind} {n : Int} (h : RepA ok ι w x v) (hi : isI x = some (k, n)) : v = .int k n := by
  unfold isI at hi
  split at hi
  · simp only [Option.some.injEq, Prod.mk.injEq] at hi
    obtain ⟨rfl, rfl⟩ := hi
    simpa only [RepA, RepD] using h
  · simp only [Option.some.injEq, Prod.mk.injEq] at hi
    obtain ⟨rfl, rfl⟩ := hi
    simpa only [RepA, RepD] using h
  · cases hi

theorem RepA_dOf {ok : Nat → Prop} {ι : Nat → Option (Nat × Nat)} {w : World} (u : Value) : RepA ok ι w (.dat (dOf u)) u := by
  simp only [RepA]; exact RepD_dOf _ _ _

theorem run_binI {P : Program} (w : World) (op : BinOp) (T : Nat) (k : IntKind) (m n : Int) (d : D) (s : Prop) (h : binI op k m n = some (d, s)) (hs : s) :
    ∃ u, (binOp op T (.int k m) (.int k n)).run P w = .ok u w ∧ ∀ ok, RepD ok w d u := by
  cases op <;> simp only [binI, Option.some.injEq, Prod.mk.injEq, reduceCtorEq] at h
  all_goals obtain ⟨rfl, rfl⟩ := h
  case add => exact ⟨_, by simp [binOp, Op.intArith], fun ok => RepD_dOf _ _ _⟩
  case sub => exact ⟨_, by simp [binOp, Op.intArith], fun ok => RepD_dOf _ _ _⟩
  case mul => exact ⟨_, by simp [binOp, Op.intArith], fun ok => RepD_dOf _ _ _⟩
  case quo => exact ⟨_, by simp [binOp, Op.intDiv, hs], fun ok => RepD_dOf _ _ _⟩
  case rem => exact ⟨_, by simp [binOp, Op.intDiv, hs], fun ok => RepD_dOf _ _ _⟩
  case and => exact ⟨_, by simp [binOp, intBits_and], fun ok => RepD_dOf _ _ _⟩
  case or => exact ⟨_, by simp [binOp, intBits_or], fun ok => RepD_dOf _ _ _⟩
  case xor => exact ⟨_, by simp [binOp, intBits_xor], fun ok => RepD_dOf _ _ _⟩
  case andNot => exact ⟨_, by simp [binOp, intBits_andNot], fun ok => RepD_dOf _ _ _⟩
  case eql => exact ⟨_, by simp [binOp, Op.intCmp]; rfl, fun ok => by simp [RepD]⟩
  case neq => exact ⟨_, by simp [binOp, Op.intCmp]; rfl, fun ok => by simp [RepD]⟩
  case lss => exact ⟨_, by simp [binOp, Op.intCmp]; rfl, fun ok => by simp [RepD]⟩
  case leq => exact ⟨_, by simp [binOp, Op.intCmp]; rfl, fun ok => by simp [RepD]⟩
  case gtr => exact ⟨_, by simp [binOp, Op.intCmp]; rfl, fun ok => by simp [RepD]⟩
  case geq => exact ⟨_, by simp [binOp, Op.intCmp]; rfl, fun ok => by simp [RepD]⟩

theorem run_shI {P : Program} (w : World) (op : BinOp) (T : Nat) (k k' : IntKind) (m n : Int) (d : D) (s : Prop) (h : shI op k m n = some (d, s)) (hs : s) :
    ∃ u, (binOp op T (.int k m) (.int k' n)).run P w = .ok u w ∧ ∀ ok, RepD ok w d u := by
  cases op <;> simp only [shI, Option.some.injEq, Prod.mk.injEq, reduceCtorEq] at h
  all_goals obtain ⟨rfl, rfl⟩ := h
  case shl => exact ⟨_, by simp [binOp, shift_shl k k' m n hs.1 hs.2], fun ok => RepD_dOf _ _ _⟩
  case shr => exact ⟨_, by simp [binOp, shift_shr k k' m n hs.1 hs.2], fun ok => RepD_dOf _ _ _⟩

theorem run_eqGuard_int {P : Program} (w : World) (op : BinOp) (T : Nat) (x y : Operand) (k k' : IntKind) (m n : Int) : (eqGuard op T x y (.int k m) (.int k' n)).run P w = .ok () w := by
  unfold eqGuard
  cases op <;> rfl

theorem run_eqGuard_bool {P : Program} (w : World) (op : BinOp) (T : Nat) (x y : Operand) (m n : Bool) : (eqGuard op T x y (.bool m) (.bool n)).run P w = .ok () w := by
  unfold eqGuard
  cases op <;> rfl

theorem run_eqGuard_agg {P : Program} (w : World) (op : BinOp) (T : Nat) (x y : Operand) (m n : Array Value) (h : P.eqGuardType P.depth T = false) : (eqGuard op T x y (.agg m) (.agg n)).run P w = .ok () w := by
  unfold eqGuard
  cases op <;> simp [h]

theorem run_eqFields {P : Program} {ok : Nat → Prop} (d : Nat) : ∀ (fs : List Field) (l l' : List D) (k : Nat) (xs ys : Array Value) (r : Bool) (w : World), eqFs P fs k = true → fs.length = l.length →
    eqL l l' = some r → RepDs ok w l (xs.toList.drop k) → RepDs ok w l' (ys.toList.drop k) → (Op.eqFields (d + 1) xs ys fs).run P w = .ok r w
  | [], [], l', k, xs, ys, r, w, hf, hl, he, hx, hy => by
    cases l' with
    | nil => simp [eqL] at he; subst he; simp [Op.eqFields]
    | cons => simp [eqL] at he
  | f :: fs, d0 :: l, l', k, xs, ys, r, w, hf, hl, he, hx, hy => by
    cases d0 with
    | i m =>
      cases l' with
      | nil => simp [eqL] at he
      | cons d1 l' =>
        cases d1 with
        | i n =>
          simp only [eqL, Option.map_eq_some_iff] at he
          obtain ⟨r', he, rfl⟩ := he
          simp only [eqFs, Bool.and_eq_true, bne_iff_ne, beq_iff_eq] at hf
          obtain ⟨⟨⟨h1, h2⟩, h3⟩, h4⟩ := hf
          simp only [RepDs, RepD] at hx hy
          obtain ⟨vx, xs', ex, rfl, _, hx⟩ := hx
          obtain ⟨vy, ys', ey, rfl, _, hy⟩ := hy
          have gx : xs[k]? = some (.int .i64 m) := by
            have := congrArg (·[0]?) ex; simpa using this
          have gy : ys[k]? = some (.int .i64 n) := by
            have := congrArg (·[0]?) ey; simpa using this
          have dx : xs.toList.drop (k + 1) = xs' := by
            have := congrArg (List.drop 1) ex; simpa using this
          have dy : ys.toList.drop (k + 1) = ys' := by
            have := congrArg (List.drop 1) ey; simpa using this
          cases hu : P.underlying f.type with
          | none => simp [hu] at h3
          | some dd =>
            cases dd <;> simp [hu] at h3
            rename_i kk
            have ih := run_eqFields d fs l l' (k + 1) xs ys r' w h4 (by simpa using hl) he (dx ▸ hx) (dy ▸ hy)
            have hag : (isAgg f.type).run P w = .ok false w := by simp [isAgg, run_underlying hu]
            have px : (part f.type xs f.offset).run P w = .ok (.int .i64 m) w := by simp [part, hag, h2, gx]
            have py : (part f.type ys f.offset).run P w = .ok (.int .i64 n) w := by simp [part, hag, h2, gy]
            have hn : f.name ≠ "_" := h1
            simp only [Op.eqFields, hn, ne_eq, not_false_eq_true, if_true, Sem.run_bind, px, py, Result.andThen_ok, run_equalIn_int w d f.type .i64 kk m n hu, Sem.run_ite, ih, Sem.run_pure]
            cases m == n <;> simp
        | b c => simp [eqL] at he
        | v u => simp [eqL] at he
        | agg l => simp [eqL] at he
        | sl n l => simp [eqL] at he
    | b c => cases l' <;> simp [eqL] at he
    | v u => cases l' <;> simp [eqL] at he
    | agg l => cases l' <;> simp [eqL] at he
    | sl n l => cases l' <;> simp [eqL] at he
  | [], _ :: _, l', k, xs, ys, r, w, hf, hl, he, hx, hy => by simp at hl
  | _ :: _, [], l', k, xs, ys, r, w, hf, hl, he, hx, hy => by simp at hl

theorem snd_bin {op : BinOp} {T T' : Nat} {x y : Operand} {out : Out} (ho : o.op = .binOp op T x y T') (h : vBin C.P op T g (opnd σ.e x) (opnd σ.e y) = some out) : Snd C o g σ out := by
  unfold vBin at h
  split at h
  · rename_i k m k' n hx hy
    split at h
    · rename_i d s hsh
      simp only [Option.some.injEq] at h; subst h
      refine Snd.pure fun ι a w S hg hs => ?_
      obtain ⟨p1, p2, hs⟩ := hs
      have ex := isI_rep (S.sopnd hg x p1) hx
      have ey := isI_rep (S.sopnd hg y p2) hy
      obtain ⟨u, hu, hr⟩ := run_shI (P := C.P) w op T k k' m n d s hsh hs
      refine ⟨u, ?_, trivial, by simp only [RepA]; exact hr _⟩
      simp [execOp, ho, ex, ey, run_eqGuard_int, hu]
    · cases hk : k == k'
      · simp [hk] at h
      · simp only [hk, cond_true] at h
        have hk' : k = k' := by simpa using hk
        subst hk'
        split at h
        · rename_i d s hsh
          simp only [Option.some.injEq] at h; subst h
          refine Snd.pure fun ι a w S hg hs => ?_
          obtain ⟨p1, p2, hs⟩ := hs
          have ex := isI_rep (S.sopnd hg x p1) hx
          have ey := isI_rep (S.sopnd hg y p2) hy
          obtain ⟨u, hu, hr⟩ := run_binI (P := C.P) w op T k m n d s hsh hs
          refine ⟨u, ?_, trivial, by simp only [RepA]; exact hr _⟩
          simp [execOp, ho, ex, ey, run_eqGuard_int, hu]
        · cases h
  · split at h
    · rename_i m n hx hy
      cases hb : isBo C.P T
      · simp [hb] at h
      · simp only [hb, cond_true] at h
        split at h
        · rename_i r hr
          simp only [Option.some.injEq] at h; subst h
          refine Snd.pure fun ι a w S hg hs => ?_
          have ex := S.sopnd hg x hs.1
          have ey := S.sopnd hg y hs.2
          rw [hx] at ex; rw [hy] at ey
          simp only [RepA, RepD] at ex ey
          have ht : C.P.underlying T = some .bool := by
            unfold isBo at hb; split at hb <;> simp_all
          have he := run_equalIn_bool (P := C.P) w 9999 T m n ht
          refine ⟨.bool r, ?_, trivial, by simp only [RepA, RepD]⟩
          cases op <;> simp only [notIf, Option.some.injEq, reduceCtorEq] at hr <;> subst hr <;> simp [execOp, ho, ex, ey, run_eqGuard_bool, binOp, Op.equal, Op.maxDepth, he]
        · cases h
    · rename_i l l' hx hy
      split at h
      · rename_i n r hty hl
        cases hn : n == l.length
        · simp [hn] at h
        · simp only [hn, cond_true] at h
          split at h
          · rename_i r' hr
            simp only [Option.some.injEq] at h; subst h
            refine Snd.pure fun ι a w S hg hs => ?_
            have ex := S.sopnd hg x hs.1
            have ey := S.sopnd hg y hs.2
            rw [hx] at ex; rw [hy] at ey
            simp only [RepA, RepD] at ex ey
            obtain ⟨xs, ex, rx⟩ := ex
            obtain ⟨ys, ey, ry⟩ := ey
            unfold eqTy at hty
            split at hty
            · rename_i fs hu
              cases hc : (eqFs C.P fs.toList 0 && !C.P.stoodInHeld T && !C.P.eqGuardType C.P.depth T)
              · simp [hc] at hty
              · simp only [hc, cond_true, Option.some.injEq] at hty
                simp only [Bool.and_eq_true, Bool.not_eq_true'] at hc
                obtain ⟨⟨c1, c2⟩, c3⟩ := hc
                have hfs : C.P.fieldsOf T = fs := by simp [Program.fieldsOf, hu]
                have he := run_equalIn_struct (P := C.P) w 9999 T xs.toArray ys.toArray (by rw [hfs]; exact hu) c2
                rw [hfs, run_eqFields (ok := okOf σ.h ι w) 9998 fs.toList l l' 0 xs.toArray ys.toArray r w c1 (by simp at hn; simp [hty, hn]) hl (by simpa using rx) (by simpa using ry)] at he
                refine ⟨.bool r', ?_, trivial, by simp only [RepA, RepD]⟩
                cases op <;> simp only [notIf, Option.some.injEq, reduceCtorEq] at hr <;> subst hr <;> simp [execOp, ho, ex, ey, run_eqGuard_agg w _ T x y _ _ c3, binOp, Op.equal, Op.maxDepth, he]
            · cases hty
          · cases h
      · cases h
    · cases h

theorem snd_un {op : UnOp} {T : Nat} {x : Operand} {out : Out} (ho : o.op = .unOp op T x) (h : vUn op g (opnd σ.e x) = some out) : Snd C o g σ out := by
  unfold vUn at h
  split at h
  · rename_i c hx
    simp only [Option.some.injEq] at h; subst h
    refine Snd.pure fun ι a w S hg hs => ?_
    have ex := S.sopnd hg x hs
    rw [hx] at ex
    simp only [RepA, RepD] at ex
    exact ⟨_, by simp [execOp, ho, ex, Op.unary]; rfl, trivial, by simp [RepA, RepD]⟩
  · rename_i c hx
    simp only [Option.some.injEq] at h; subst h
    refine Snd.pure fun ι a w S hg hs => ?_
    have ex := S.sopnd hg x hs
    rw [hx] at ex
    simp only [RepA, RepD] at ex
    exact ⟨_, by simp [execOp, ho, ex, Op.unary, Op.intArith]; rfl, trivial, by simp [RepA, RepD]⟩
  · cases h

theorem snd_pick {c x y : Operand} {out : Out} (ho : o.op = .pick c x y) (h : vPick g (opnd σ.e c) (opnd σ.e x) (opnd σ.e y) = some out) : Snd C o g σ out := by
  unfold vPick at h
  split at h
  · rename_i cc m n hc hx hy
    simp only [Option.some.injEq] at h; subst h
    refine Snd.pure fun ι a w S hg hs => ?_
    obtain ⟨p1, p2, p3⟩ := hs
    have ec := S.sopnd hg c p1
    rw [hc] at ec
    simp only [RepA, RepD] at ec
    cases cc with
    | true =>
      have ex := S.sopnd (by simp [hg]) x p2
      rw [hx] at ex
      simp only [RepA, RepD] at ex
      exact ⟨_, by simp [execOp, ho, ec, asBool]; rfl, trivial, by simp [RepA, RepD, ex]⟩
    | false =>
      have ex := S.sopnd (by simp [hg]) y p3
      rw [hy] at ex
      simp only [RepA, RepD] at ex
      exact ⟨_, by simp [execOp, ho, ec, asBool]; rfl, trivial, by simp [RepA, RepD, ex]⟩
  · cases h

theorem snd_conv {src dst : Nat} {x : Operand} {out : Out} (ho : o.op = .convert src dst x) (h : vConv C.P src dst g (opnd σ.e x) = some out) : Snd C o g σ out := by
  unfold vConv at h
  split at h
  · rename_i k n k' hx hk
    cases hs : (C.P.underlying src).isSome
    · simp [hs] at h
    · simp only [hs, cond_true, Option.some.injEq] at h; subst h
      refine Snd.pure fun ι a w S hg hsd => ?_
      have ex := isI_rep (S.sopnd hg x hsd) hx
      have hu : C.P.underlying dst = some (.int k') := by
        unfold ikOf at hk; split at hk <;> simp_all
      have hik : C.P.intKind dst = k' := by simp [Program.intKind, hu]
      have := run_convert_int (P := C.P) w src dst k n hs (by rw [hik]; exact hu)
      rw [hik] at this
      exact ⟨_, by simp [execOp, ho, ex, this], trivial, RepA_dOf _⟩
  · cases h

theorem snd_extr {x : Operand} {i : Nat} {out : Out} (ho : o.op = .extract x i) (h : vExtr g (opnd σ.e x) i = some out) : Snd C o g σ out := by
  unfold vExtr at h
  split at h
  · rename_i l hx
    split at h
    · rename_i av hl
      simp only [Option.some.injEq] at h; subst h
      refine Snd.pure fun ι a w S hg hs => ?_
      have ex := S.sopnd hg x hs
      rw [hx] at ex
      simp only [RepA] at ex
      obtain ⟨vs, ex, hr⟩ := ex
      obtain ⟨v, hv, hr, _⟩ := RepAs_get i hr hl
      exact ⟨v, by simp [execOp, ho, ex, Instr.extract, hv], trivial, hr⟩
    · cases h
  · cases h

theorem snd_move {x : Operand} (ho : o.op = .move x ∨ o.op = .assign x) : Snd C o g σ ⟨opnd σ.e x, [], True, True⟩ := by
  refine Snd.pure fun ι a w S hg _ => ⟨a.eval x, ?_, trivial, S.opnd x⟩
  rcases ho with ho | ho <;> simp [execOp, ho]

end
end Go.Eng
