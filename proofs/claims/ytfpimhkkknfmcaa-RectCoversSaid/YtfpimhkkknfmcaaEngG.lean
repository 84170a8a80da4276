import Derived.Test.YtfpimhkkknfmcaaEngF
namespace Go.Eng
open Go.RowKit

/-! ### Operations that make memory -/

def vAlloc (P : Program) (d T : Nat) (σ : St) : Option Out :=
  match zC P T with
  | some z => bif fresh d σ then some ⟨.pt d 0, [(d, some (true, .box T (z.map AV.dat)))], True, True⟩ else none
  | none => none

def vBox (d T : Nat) (g : Bool) (σ : St) (x : AV) : Option Out :=
  match cellsOf (sp x) with
  | some c => bif fresh d σ then some ⟨.pt d 0, [(d, some (true, .box T c))], pk g x, True⟩ else none
  | none => none

def plF (P : Program) (T : Nat) : Option (Nat → Option (Nat × Nat)) :=
  match P.underlying T with
  | some (.struct fs) => (fs.toList.mapM (fun f => (P.info? f.type).map fun i => (f.offset, i.size))).map fun l i => l[i]?
  | some (.array _ e) => (P.info? e).map fun ie i => some (i * ie.size, ie.size)
  | _ => none

def pks (g : Bool) : List (Nat × AV) → Prop
  | [] => True
  | (_, x) :: l => pk g x ∧ pks g l

def vBuild (P : Program) (T : Nat) (g : Bool) (ps : List (Nat × AV)) : Option Out :=
  match zC P T, plF P T with
  | some z, some pl => match bld pl ps (z.map AV.dat) with
    | some l => some ⟨mkAgg l, [], pks g ps, True⟩
    | none => none
  | _, _ => none

/-- The elements of a slice that is written out. -/
def bldS (n : Nat) : List (Nat × AV) → List (List D) → Option (List (List D))
  | [], l => some l
  | (i, x) :: rest, l => match cellsOf (sp x) with
    | none => none
    | some cs => match allDat cs with
      | none => none
      | some ds => bif ds.length == n && decide (i < l.length) then bldS n rest (l.set i ds) else none

def vBuildS (P : Program) (fz : Bool) (d T : Nat) (len : Nat) (g : Bool) (σ : St) (ps : List (Nat × AV)) : Option Out :=
  match elOf P T with
  | none => none
  | some e => match zC P e with
    | none => none
    | some z => let n := szOf P e
      bif z.length == n && decide (0 < n) && decide ((len * n) ≤ 16777216) && (P.info? e).isSome then
        match bldS n ps (List.replicate len z) with
        | none => none
        | some l => bif fz then some ⟨.dat (.sl n l), [], pks g ps, True⟩
          else bif fresh d σ then some ⟨.vw d 0 len n, [(d, some (true, .arr e n l))], pks g ps, True⟩ else none
      else none

def vMake (P : Program) (fz : Bool) (d T : Nat) (g : Bool) (σ : St) (x y : AV) : Option Out :=
  match elOf P T with
  | none => none
  | some e => match zC P e with
    | none => none
    | some z => let n := szOf P e
      bif z.length == n && decide (0 < n) && (P.info? e).isSome then
        match isI (sp x), isI (sp y) with
        | some (_, l), some (_, c) =>
          bif fz then some ⟨.dat (.sl n (List.replicate l.toNat z)), [], pk g x ∧ pk g y ∧ 0 ≤ l ∧ l ≤ c ∧ (byOf P e : Int) * c ≤ 281474976710656 ∧ c ≤ 9223372036854775807, True⟩
          else bif fresh d σ then some ⟨.vw d 0 l.toNat n, [(d, some (true, .arr e n (List.replicate l.toNat z)))], pk g x ∧ pk g y ∧ 0 ≤ l ∧ l ≤ c ∧ (byOf P e : Int) * c ≤ 281474976710656 ∧ c ≤ 9223372036854775807, True⟩
          else none
        | _, _ => none
      else none

def hiOf (m : Nat) : Option AV → Option Int
  | none => some m
  | some a => (isI (sp a)).map fun p => p.2
def opk (g : Bool) : Option AV → Prop
  | none => True
  | some a => pk g a

def vSlice (P : Program) (T : Nat) (g : Bool) (x : AV) (lo hi : Option AV) : Option Out :=
  match elOf P T, hiOf 0 lo with
  | some e, some l => match sp x with
    | .vw nm o m n => match hiOf m hi with
      | some h => bif szOf P e == n && (P.info? e).isSome then some ⟨.vw nm (o + l.toNat) (h.toNat - l.toNat) n, [], pk g x ∧ opk g lo ∧ opk g hi ∧ 0 ≤ l ∧ l ≤ h ∧ h ≤ m ∧ (l < m ∨ l = 0), True⟩ else none
      | none => none
    | .dat (.sl n ls) => match hiOf ls.length hi with
      | some h => bif szOf P e == n && (P.info? e).isSome then some ⟨.dat (.sl n ((ls.take h.toNat).drop l.toNat)), [], pk g x ∧ opk g lo ∧ opk g hi ∧ 0 ≤ l ∧ l ≤ h ∧ h ≤ ls.length, True⟩ else none
      | none => none
    | _ => none
  | _, _ => none

section
variable {P : Program} {w : World} {ok : Nat → Prop} {ι : Nat → Option (Nat × Nat)}

theorem zC_rep {T : Nat} {z : List D} (h : zC P T = some z) : ∃ i u, P.info? T = some i ∧ i.zero = some u ∧ RepDs ok w z u.cells.toList := by
  unfold zC at h
  cases hi : P.info? T with
  | none => simp [hi] at h
  | some i =>
    cases hz : i.zero with
    | none => simp [hi, hz] at h
    | some u =>
      simp only [hi, hz, Option.bind_some] at h
      cases ha : u.cells.toList.all Value.oneCell'
      · simp [ha] at h
      · simp only [ha, cond_true, Option.some.injEq] at h; subst h
        refine ⟨i, u, rfl, hz, ?_⟩
        generalize u.cells.toList = l at ha
        clear hz
        induction l with
        | nil => simp [RepDs]
        | cons x l ih =>
          simp only [List.all_cons, Bool.and_eq_true] at ha
          simp only [List.map_cons, RepDs]
          exact ⟨x, l, rfl, RepD_dOf _ _ _, ha.1, ih ha.2⟩

theorem madeCells_flat (z : Array Value) (n : Nat) : (madeCells z (n * z.size)).toList = (List.replicate n z.toList).flatten := by
  induction n with
  | zero => simp [madeCells]
  | succ n ih =>
    rw [List.replicate_succ', List.flatten_append, ← ih]
    simp only [madeCells, Array.toList_map, Array.toList_range, Nat.add_mul, Nat.one_mul, List.range_add, List.map_append, List.flatten_cons, List.flatten_nil, List.append_nil, List.map_map]
    congr 1
    apply List.ext_getElem?
    intro j
    by_cases hj : j < z.size
    · have hm : (n * z.size + j) % z.size = j := by rw [Nat.mul_comm, Nat.mul_add_mod]; exact Nat.mod_eq_of_lt hj
      simp [hj, hm]
    · simp [hj]

theorem RepDss_replicate {z : List D} {zs : List Value} (h : RepDs ok w z zs) : ∀ n, RepDss ok w zs.length (List.replicate n z) (List.replicate n zs).flatten
  | 0 => by simp [RepDss]
  | n + 1 => by
    simp only [List.replicate_succ, List.flatten_cons, RepDss]
    exact ⟨zs, _, rfl, rfl, h, RepDss_replicate h n⟩

theorem heap_alloc_same (w : World) (o : Obj) : (w.alloc o).heap[w.heap.size]? = some o := by show (w.heap.push o)[w.heap.size]? = _; simp
theorem heap_alloc_lt (w : World) (o : Obj) (b : Nat) (h : b < w.heap.size) : (w.alloc o).heap[b]? = w.heap[b]? := by
  show (w.heap.push o)[b]? = _
  rw [Array.getElem?_push, if_neg (by omega)]

end

section
variable {C : Ctx} {σ : St} {o : Oper} {g : Bool}

theorem cellsOf_refs {a : AV} {c : List AV} {d : Nat} (h : cellsOf a = some c) (hr : a.refs d = false) : AV.refsL d c = false := by
  unfold cellsOf at h
  split at h
  · simp only [Option.some.injEq] at h; subst h
    rename_i l
    clear hr
    induction l with
    | nil => rfl
    | cons x l ih => simp [AV.refsL, AV.refs, ih]
  · simp only [Option.some.injEq] at h; subst h
    simpa only [AV.refs] using hr
  · simp only [Option.some.injEq] at h; subst h; simp [AV.refsL, AV.refs]
  · simp only [Option.some.injEq] at h; subst h; simp [AV.refsL, AV.refs]
  · rename_i u
    cases hu : u.oneCell'
    · simp [hu] at h
    · simp only [hu, cond_true, Option.some.injEq] at h; subst h; simp [AV.refsL, AV.refs]
  · simp only [Option.some.injEq] at h; subst h; simp [AV.refsL, AV.refs]
  · simp only [Option.some.injEq] at h; subst h; simpa [AV.refsL, AV.refs] using hr
  · simp only [Option.some.injEq] at h; subst h; simpa [AV.refsL, AV.refs] using hr
  · simp only [Option.some.injEq] at h; subst h; simpa [AV.refsL, AV.refs] using hr
  · simp only [Option.some.injEq] at h; subst h; simp [AV.refsL, AV.refs]
  · cases h

theorem sp_refs {d : Nat} : ∀ {a : AV}, a.refs d = false → (sp a).refs d = false
  | .gd _ x, h => by simp only [sp]; exact sp_refs (by simpa only [AV.refs] using h)
  | .un, h | .dat _, h | .agg _, h | .tup _, h | .rp _, h | .pt .., h | .ep .., h | .vw .., h => by simpa only [sp] using h

theorem opnd_refs {d : Nat} (hf : fresh d σ = true) (x : Operand) : (opnd σ.e x).refs d = false := by
  simp only [fresh, Bool.and_eq_true] at hf
  cases x with
  | tmp t => exact get_refs hf.1 t
  | const v => rfl
  | func f => rfl
  | global g => rfl

/-- A new box. -/
theorem SimI.newBox {ι : Nat → Option (Nat × Nat)} {a : Act} {w : World} (S : SimI C σ ι a w) {d T : Nat} {c : List AV} {cur : Array Value} (hf : fresh d σ = true) (hc : AV.refsL d c = false)
    (hr : RepAs (okOf σ.h ι w) ι w true c cur.toList) :
    ∃ ι', SimI C ⟨σ.e, (d, some (true, .box T c)) :: σ.h⟩ ι' a (w.alloc (.cells cur T)) ∧ ι' d = some (w.heap.size, 0) := by
  refine ⟨_, S.new (w' := w.alloc (.cells cur T)) (p := some (w.heap.size, 0)) rfl rfl rfl (by simp) (fun b h => heap_alloc_lt w _ b h) hf (fun b c h => by simp at h; omega) (fun hok hne => ?_), by simp⟩
  refine ⟨w.heap.size, 0, cur, by simp, .inl S.size, heap_alloc_same w _, ?_⟩
  refine RepAs.tr hok (fun b hb => heap_alloc_lt w _ b hb.1) true c _ (fun k hk => ?_) hr
  exact hne (.agg c) (by simpa only [AV.refs] using hc) k (by simpa only [AV.refs] using hk)

theorem snd_alloc {T d : Nat} {out : Out} (ho : o.op = .alloc T) (h : vAlloc C.P d T σ = some out) : Snd C o g σ out := by
  unfold vAlloc at h
  split at h
  · rename_i z hz
    cases hf : fresh d σ
    · simp [hf] at h
    · simp only [hf, cond_true, Option.some.injEq] at h; subst h
      intro ι a w S hg hs
      obtain ⟨i, u, h1, h2, h3⟩ := zC_rep (ok := okOf σ.h ι w) (w := w) hz
      obtain ⟨ι', S', hd⟩ := S.newBox (T := T) (cur := u.cells) hf (by
        clear hz h3
        induction z with
        | nil => rfl
        | cons x l ih => simp [AV.refsL, AV.refs, ih]) (RepAs_dat.2 h3)
      refine ⟨_, _, .pointer (some ⟨w.heap.size, 0, none⟩), ?_, .inl rfl, trivial, ι', S', by simp only [RepA]; exact ⟨_, _, hd, rfl⟩⟩
      simp [execOp, ho, Instr.alloc, zeroValue, typeInfo, h1, h2, newVar, newRow]
  · cases h

theorem snd_box {T d : Nat} {x : Operand} {out : Out} (ho : o.op = .box T x) (h : vBox d T g σ (opnd σ.e x) = some out) : Snd C o g σ out := by
  unfold vBox at h
  split at h
  · rename_i c hc
    cases hf : fresh d σ
    · simp [hf] at h
    · simp only [hf, cond_true, Option.some.injEq] at h; subst h
      intro ι a w S hg hs
      have ex := cellsOf_rep (S.sopnd hg x hs) hc
      obtain ⟨ι', S', hd⟩ := S.newBox (T := T) (cur := (a.eval x).cells) hf (cellsOf_refs hc (sp_refs (opnd_refs hf x))) ex
      refine ⟨_, _, .pointer (some ⟨w.heap.size, 0, none⟩), ?_, .inl rfl, trivial, ι', S', by simp only [RepA]; exact ⟨_, _, hd, rfl⟩⟩
      simp [execOp, ho, Instr.box, newVar, newRow]
  · cases h

theorem pks_get {g : Bool} : ∀ {ps : List (Nat × AV)}, pks g ps → ∀ (k : Nat) (p : Nat × AV), ps[k]? = some p → pk g p.2
  | [], _, k, p, h => by simp at h
  | (i, x) :: l, hp, 0, p, h => by simp only [pks] at hp; simp at h; subst h; exact hp.1
  | (i, x) :: l, hp, k + 1, p, h => by simp only [pks] at hp; exact pks_get hp.2 k p (by simpa using h)

def partsA (e : List (Nat × AV)) (ps : Array (Nat × Operand)) : List (Nat × AV) := ps.toList.map fun p => (p.1, opnd e p.2)

theorem parts_rep {ι : Nat → Option (Nat × Nat)} {a : Act} {w : World} (S : SimI C σ ι a w) {ps : Array (Nat × Operand)} (hp : pks g (partsA σ.e ps)) :
    ∀ (k : Nat) (p : Nat × AV) (q : Nat × Value), (partsA σ.e ps)[k]? = some p → ((ps.map fun (i, x) => (i, a.eval x)).toList)[k]? = some q → RepA (okOf σ.h ι w) ι w p.2 q.2 ∧ pk g p.2 := by
  intro k p q h1 h2
  refine ⟨?_, pks_get hp k p h1⟩
  simp only [partsA, List.getElem?_map, Option.map_eq_some_iff] at h1
  obtain ⟨r, hr, rfl⟩ := h1
  simp only [Array.toList_map, List.getElem?_map, hr, Option.map_some, Option.some.injEq] at h2
  subst h2
  exact S.opnd r.2

theorem snd_build {T : Nat} {ps : Array (Nat × Operand)} {out : Out} (ho : o.op = .build T ps) (h : vBuild C.P T g (partsA σ.e ps) = some out) : Snd C o g σ out := by
  unfold vBuild at h
  split at h
  · rename_i z pl hz hpl
    split at h
    · rename_i l hb
      simp only [Option.some.injEq] at h; subst h
      refine Snd.pure fun ι a w S hg hs => ?_
      obtain ⟨i, u, h1, h2, h3⟩ := zC_rep (ok := okOf σ.h ι w) (w := w) hz
      obtain ⟨cells', h4, h5⟩ := bld_rep (ι := ι) hg pl (partsA σ.e ps) ((ps.map fun (i, x) => (i, a.eval x)).toList) _ l u.cells (by simp [partsA, Function.comp_def]) (parts_rep S hs) (RepAs_dat.2 h3) hb
      refine ⟨.agg cells', ?_, trivial, by simpa using mkAgg_rep h5⟩
      have hbt : C.P.built T ((ps.map fun (i, x) => (i, a.eval x)).toList) = some cells' := by
        unfold plF at hpl
        unfold Program.built
        split at hpl
        · rename_i fs hu
          simp only [Option.map_eq_some_iff] at hpl
          obtain ⟨places, hp1, rfl⟩ := hpl
          simp only [h1, hu, h2, hp1]
          simpa using h4
        · rename_i n e hu
          simp only [Option.map_eq_some_iff] at hpl
          obtain ⟨ie, hp1, rfl⟩ := hpl
          simp only [h1, hu, h2, hp1]
          exact h4
        · cases hpl
      simp only [execOp, ho, Sem.run_bind, run_build w T _ cells' hbt, Result.andThen_ok, Sem.run_pure]
    · cases h
  · cases h

theorem bldS_rep {ok : Nat → Prop} {ι : Nat → Option (Nat × Nat)} {w : World} {n : Nat} (hg : g = true) : ∀ (ps : List (Nat × AV)) (vs : List (Nat × Value)) (l l' : List (List D)) (cells : Array Value),
    ps.map (·.1) = vs.map (·.1) → (∀ (k : Nat) (p : Nat × AV) (q : Nat × Value), ps[k]? = some p → vs[k]? = some q → RepA ok ι w p.2 q.2 ∧ pk g p.2) →
    RepDss ok w n l cells.toList → bldS n ps l = some l' → ∃ cells', Instr.fill (fun i => some (i * n, n)) cells vs = some cells' ∧ RepDss ok w n l' cells'.toList ∧ l'.length = l.length
  | [], [], l, l', cells, _, _, h, hb => by
    simp only [bldS, Option.some.injEq] at hb; subst hb
    exact ⟨cells, rfl, h, rfl⟩
  | [], _ :: _, l, l', cells, hm, _, h, hb => by simp at hm
  | _ :: _, [], l, l', cells, hm, _, h, hb => by simp at hm
  | (i, x) :: ps, (i', v) :: vs, l, l', cells, hm, hr, h, hb => by
    simp only [List.map_cons, List.cons.injEq] at hm
    obtain ⟨rfl, hm⟩ := hm
    simp only [bldS] at hb
    cases hc : cellsOf (sp x) with
    | none => simp [hc] at hb
    | some cs =>
      simp only [hc] at hb
      cases hd : allDat cs with
      | none => simp [hd] at hb
      | some ds =>
        simp only [hd] at hb
        have := allDat_eq hd
        subst this
        obtain ⟨hx, hpk⟩ := hr 0 (i, x) (i, v) rfl rfl
        have hcs := RepAs_dat.1 (cellsOf_rep (sp_rep hg hpk hx) hc)
        have hl1 := RepDs_length hcs
        have hl2 := RepDss_length h
        cases ht : (ds.length == n && decide (i < l.length)) with
        | false => simp [ht] at hb
        | true =>
          simp only [ht, cond_true] at hb
          simp only [Bool.and_eq_true, beq_iff_eq, decide_eq_true_eq] at ht
          have hin : i * n + n ≤ l.length * n := by
            have : (i + 1) * n ≤ l.length * n := Nat.mul_le_mul_right n ht.2
            rw [Nat.add_mul] at this; omega
          have hcell : cells.size = l.length * n := by simpa using hl2
          have hsz : v.cells.size = n := by simp at hl1; omega
          have e := foldl_set_spl (i * n) v.cells.toList 0 cells (by simp [hsz]; omega)
          simp only [Nat.add_zero] at e
          have hset := RepDss_set i h ht.2 hcs (by simpa using hsz)
          obtain ⟨cells', h1, h2, h3⟩ := bldS_rep hg ps vs (l.set i ds) l' (v.cells.zipIdx.foldl (fun cs (p : Value × Nat) => cs.setIfInBounds (i * n + p.2) p.1) cells) hm
            (fun k p q hk hq => hr (k + 1) p q (by simpa using hk) (by simpa using hq)) (by
              rw [← Array.foldl_toList, Array.toList_zipIdx, e]
              unfold spl
              have : v.cells.toList.length = n := by simpa using hsz
              rw [this]
              exact hset) hb
          refine ⟨cells', ?_, h2, by simpa using h3⟩
          simp only [Instr.fill]
          rw [if_neg (by simp [hsz]; omega)]
          exact h1

/-- A new row. -/
theorem SimI.newArr {ι : Nat → Option (Nat × Nat)} {a : Act} {w w' : World} (S : SimI C σ ι a w) {d T n cap : Nat} {l : List (List D)} {cur : Array Value} (hf : fresh d σ = true)
    (ho : w'.os = w.os) (ht : w'.tape = w.tape) (hu : w'.output = w.output) (hh : w'.heap = w.heap.push (.cells cur T))
    (hr : RepDss (okOf σ.h ι w) w n l (cur.toList.take (l.length * n))) (hs : cur.size = cap * n) (hl : l.length ≤ cap) (hm : cap ≤ maxLen) :
    ∃ ι', SimI C ⟨σ.e, (d, some (true, .arr T n l)) :: σ.h⟩ ι' a w' ∧ ι' d = some (w.heap.size, cap) := by
  have hlt : ∀ b, b < w.heap.size → w'.heap[b]? = w.heap[b]? := fun b h => by
    rw [hh, Array.getElem?_push, if_neg (by omega)]
  refine ⟨_, S.new (w' := w') (p := some (w.heap.size, cap)) ho ht hu (by simp [hh]) hlt hf (fun b c h => by simp at h; omega) (fun hok hne => ?_), by simp⟩
  exact .inr ⟨w.heap.size, cap, cur, by simp, .inl S.size, by simp [hh], hs, hl, hm, RepDss.tr hok (fun b hb => hlt b hb.1) n l _ hr⟩

theorem snd_buildS {fz : Bool} {T d len : Nat} {ps : Array (Nat × Operand)} {out : Out} (ho : o.op = .buildSlice T len ps) (h : vBuildS C.P fz d T len g σ (partsA σ.e ps) = some out) : Snd C o g σ out := by
  unfold vBuildS at h
  split at h
  · cases h
  · rename_i e he
    split at h
    · cases h
    · rename_i z hz
      cases hcnd : (z.length == szOf C.P e && decide (0 < (szOf C.P e)) && decide ((len * szOf C.P e) ≤ 16777216) && (C.P.info? e).isSome)
      · simp [hcnd] at h
      · simp only [hcnd, cond_true] at h
        simp only [Bool.and_eq_true, beq_iff_eq, decide_eq_true_eq] at hcnd
        obtain ⟨⟨⟨c1, c2⟩, c3⟩, c4⟩ := hcnd
        split at h
        · cases h
        · rename_i l hb
          have key : ∀ ι a w, SimI C σ ι a w → g = true → pks g (partsA σ.e ps) → ∃ cells', (Instr.buildSlice T len (ps.map fun (i, x) => (i, a.eval x))).run C.P w = .ok (.slice (some ⟨w.heap.size, 0, none⟩) len len) (w.alloc (.cells cells' e)) ∧
              RepDss (okOf σ.h ι w) w (szOf C.P e) l cells'.toList ∧ l.length = len := by
            intro ι a w S hg hs
            obtain ⟨i, u, h1, h2, h3⟩ := zC_rep (ok := okOf σ.h ι w) (w := w) hz
            have hzs : u.cells.size = szOf C.P e := by have := RepDs_length h3; simp at this; omega
            have hrep := RepDss_replicate h3 len
            have hfl : (madeCells u.cells (len * szOf C.P e)).toList = (List.replicate len u.cells.toList).flatten := by rw [← hzs]; exact madeCells_flat _ _
            rw [← hfl] at hrep
            have : u.cells.toList.length = szOf C.P e := by simpa using hzs
            rw [this] at hrep
            obtain ⟨cells', h4, h5, h6⟩ := bldS_rep (ι := ι) hg (partsA σ.e ps) ((ps.map fun (i, x) => (i, a.eval x)).toList) _ l (madeCells u.cells (len * szOf C.P e)) (by simp [partsA, Function.comp_def]) (parts_rep S hs) hrep hb
            refine ⟨cells', ?_, h5, by simpa using h6⟩
            have hsz := run_sizeOf (P := C.P) (w := w) (e := e) (n := szOf C.P e) (by simp [c4])
            have hn : ¬ (16777216 < len * szOf C.P e) := by omega
            by_cases h0 : len * szOf C.P e = 0
            · have hl0 : len = 0 := by
                rcases Nat.mul_eq_zero.1 h0 with h | h
                · exact h
                · omega
              subst hl0
              have he0 : madeCells u.cells (0 * szOf C.P e) = (#[] : Array Value) := by simp [madeCells, Array.range_zero']
              rw [he0] at h4
              simp only [Array.toList_map] at h4
              simp [Instr.buildSlice, run_underlying (elOf_some he), hsz, newRow, Array.range_zero', h4]
            · have hz2 : (zeroValue e).run C.P w = .ok u w := by simp [zeroValue, typeInfo, h1, h2]
              have hmc : (Array.range (len * szOf C.P e)).map (u.cells[· % u.cells.size]!) = madeCells u.cells (len * szOf C.P e) := rfl
              simp only [Array.toList_map] at h4
              simp [Instr.buildSlice, run_underlying (elOf_some he), hsz, hn, h0, hz2, newRow, hmc, h4]
          cases fz
          · simp only [cond_false] at h
            cases hf : fresh d σ
            · simp [hf] at h
            · simp only [hf, cond_true, Option.some.injEq] at h; subst h
              intro ι a w S hg hs
              obtain ⟨cells', h1, h2, h3⟩ := key ι a w S hg hs
              have hsz : cells'.size = len * szOf C.P e := by have := RepDss_length h2; simp at this; rw [this, h3]
              have hml : len ≤ maxLen := by
                have : len * 1 ≤ len * szOf C.P e := Nat.mul_le_mul_left len c2
                simp [maxLen]; omega
              obtain ⟨ι', S', hd⟩ := S.newArr (w' := w.alloc (.cells cells' e)) (T := e) (cap := len) hf rfl rfl rfl rfl (by rw [h3, List.take_of_length_le (by simp [hsz])]; exact h2) hsz (by omega) hml
              refine ⟨_, _, .slice (some ⟨w.heap.size, 0, none⟩) len len, by simp only [execOp, ho, Sem.run_bind, h1, Result.andThen_ok, Sem.run_pure], .inl rfl, trivial, ι', S', ?_⟩
              simp only [RepA]
              exact .inr ⟨_, _, hd, by simp, by omega⟩
          · simp only [cond_true, Option.some.injEq] at h; subst h
            intro ι a w S hg hs
            obtain ⟨cells', h1, h2, h3⟩ := key ι a w S hg hs
            have hsz : cells'.size = len * szOf C.P e := by have := RepDss_length h2; simp at this; rw [this, h3]
            have hml : l.length ≤ maxLen := by
              have : len * 1 ≤ len * szOf C.P e := Nat.mul_le_mul_left len c2
              simp [maxLen]; omega
            have S' := S.grow (w' := w.alloc (.cells cells' e)) rfl rfl rfl (by simp) (fun b h => heap_alloc_lt w _ b h)
            refine ⟨_, _, .slice (some ⟨w.heap.size, 0, none⟩) len len, by simp only [execOp, ho, Sem.run_bind, h1, Result.andThen_ok, Sem.run_pure], .inl rfl, trivial, ι, S', ?_⟩
            simp only [RepA, RepD, List.nil_append]
            have hok : ∀ b, okOf σ.h ι w b → okOf σ.h ι (w.alloc (.cells cells' e)) b := fun b h => ⟨by have := h.1; simp; omega, h.2⟩
            refine ⟨hml, .inr ⟨w.heap.size, 0, len, cells'.toList, by rw [h3], by omega, ⟨by simp, fun nm x c hx hi => ?_⟩, RepDss.tr hok (fun b hb => heap_alloc_lt w _ b hb.1) _ l _ h2, ?_⟩⟩
            · have := S.live_lt hx hi; omega
            · have := cellsAt_block (o := 0) (heap_alloc_same w (.cells cells' e))
              simpa using this

theorem snd_make {fz : Bool} {T d : Nat} {x y : Operand} {out : Out} (ho : o.op = .makeSlice T x y) (h : vMake C.P fz d T g σ (opnd σ.e x) (opnd σ.e y) = some out) : Snd C o g σ out := by
  unfold vMake at h
  split at h
  · cases h
  · rename_i e he
    split at h
    · cases h
    · rename_i z hz
      cases hcnd : (z.length == szOf C.P e && decide (0 < (szOf C.P e)) && (C.P.info? e).isSome)
      · simp [hcnd] at h
      · simp only [hcnd, cond_true] at h
        simp only [Bool.and_eq_true, beq_iff_eq, decide_eq_true_eq] at hcnd
        obtain ⟨⟨c1, c2⟩, c4⟩ := hcnd
        split at h
        · rename_i k1 l k2 c hx hy
          have key : ∀ ι a w, SimI C σ ι a w → g = true → pk g (opnd σ.e x) ∧ pk g (opnd σ.e y) ∧ 0 ≤ l ∧ l ≤ c ∧ (byOf C.P e : Int) * c ≤ 281474976710656 ∧ c ≤ 9223372036854775807 →
              ∃ cur : Array Value, (execOp a.eval o).run C.P w = .ok (.value (.slice (some ⟨w.heap.size, 0, none⟩) l.toNat c.toNat)) (w.alloc (.cells cur e)) ∧ cur.size = c.toNat * szOf C.P e ∧
              RepDss (okOf σ.h ι w) w (szOf C.P e) (List.replicate l.toNat z) (cur.toList.take (l.toNat * szOf C.P e)) := by
            intro ι a w S hg hs
            obtain ⟨p1, p2, s1, s2, s3, s4⟩ := hs
            have ex := isI_rep (S.sopnd hg x p1) hx
            have ey := isI_rep (S.sopnd hg y p2) hy
            obtain ⟨i, u, h1, h2, h3⟩ := zC_rep (ok := okOf σ.h ι w) (w := w) hz
            have hzs : u.cells.size = szOf C.P e := by have := RepDs_length h3; simp at this; omega
            have his : i.size = szOf C.P e := by simp [szOf, h1]
            have hib : byOf C.P e = i.bytes := by simp [byOf, h1]
            have hrun := run_make (P := C.P) w T e i u (elOf_some he) h1 h2 k1 k2 l c s1 s2 (by rw [← hib]; exact s3) s4
            rw [his] at hrun
            refine ⟨madeCells u.cells (c.toNat * szOf C.P e), by simp only [execOp, ho, ex, ey, Sem.run_bind, hrun, Result.andThen_ok, Sem.run_pure], size_madeCells _ _, ?_⟩
            have hrep := RepDss_replicate h3 c.toNat
            have : u.cells.toList.length = szOf C.P e := by simpa using hzs
            rw [this] at hrep
            have hfl : (madeCells u.cells (c.toNat * szOf C.P e)).toList = (List.replicate c.toNat u.cells.toList).flatten := by rw [← hzs]; exact madeCells_flat _ _
            rw [← hfl] at hrep
            have := RepDss_take l.toNat hrep
            rwa [List.take_replicate, Nat.min_eq_left (by omega)] at this
          cases fz
          · simp only [cond_false] at h
            cases hf : fresh d σ
            · simp [hf] at h
            · simp only [hf, cond_true, Option.some.injEq] at h; subst h
              intro ι a w S hg hs
              obtain ⟨cur, h1, h2, h3⟩ := key ι a w S hg hs
              obtain ⟨p1, p2, s1, s2, s3, s4⟩ := hs
              obtain ⟨ι', S', hd⟩ := S.newArr (w' := w.alloc (.cells cur e)) (T := e) (n := szOf C.P e) (l := List.replicate l.toNat z) (cap := c.toNat) hf rfl rfl rfl rfl (by simpa using h3) h2 (by simp; omega) (by simp [maxLen]; omega)
              refine ⟨_, _, _, h1, .inl rfl, trivial, ι', S', ?_⟩
              simp only [RepA]
              exact .inr ⟨_, _, hd, by simp, by omega⟩
          · simp only [cond_true, Option.some.injEq] at h; subst h
            intro ι a w S hg hs
            obtain ⟨cur, h1, h2, h3⟩ := key ι a w S hg hs
            obtain ⟨p1, p2, s1, s2, s3, s4⟩ := hs
            have S' := S.grow (w' := w.alloc (.cells cur e)) rfl rfl rfl (by simp) (fun b h => heap_alloc_lt w _ b h)
            refine ⟨_, _, _, h1, .inl rfl, trivial, ι, S', ?_⟩
            simp only [RepA, RepD, List.nil_append]
            have hok : ∀ b, okOf σ.h ι w b → okOf σ.h ι (w.alloc (.cells cur e)) b := fun b h => ⟨by have := h.1; simp; omega, h.2⟩
            refine ⟨by simp [maxLen]; omega, .inr ⟨w.heap.size, 0, c.toNat, _, by simp, by simp; omega, ⟨by simp, fun nm x c hx hi => ?_⟩, RepDss.tr hok (fun b hb => heap_alloc_lt w _ b hb.1) _ _ _ h3, ?_⟩⟩
            · have := S.live_lt hx hi; omega
            · have := cellsAt_take (k := l.toNat * szOf C.P e) (cellsAt_block (o := 0) (heap_alloc_same w (.cells cur e)))
              simpa using this
        · cases h
end
end Go.Eng
