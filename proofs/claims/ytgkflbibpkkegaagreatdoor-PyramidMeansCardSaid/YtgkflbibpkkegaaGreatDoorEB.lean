import Derived.Test.YtgkflbibpkkegaaGreatDoorEA
import Derived.Laws.OwnMore
set_option linter.unusedSimpArgs false
set_option linter.unusedVariables false
namespace Go.Eng
open Go.RowKit


def vAlloc (P : Program) (d T : Nat) (σ : St) : Option Out :=
  match zC P T with
  | some z => bif fresh d σ then some ⟨.pt d 0, [(d, some (true, .box T (z.map AV.dat)))], True, True⟩ else none
  | none => none

def vBox (d T : Nat) (g : Bool) (σ : St) (x : AV) : Option Out :=
  match cellsOf (sp x) with
  | some c => bif fresh d σ then some ⟨.pt d 0, [(d, some (true, .box T c))], pk g x, True⟩ else none
  | none => none

def plF (P : Program) (T : Nat) : Option (Nat → Option (Nat × Nat)) :=
  match P.underlying T with
  | some (.struct fs) => (fs.toList.mapM (fun f => (P.info? f.type).map fun i => (f.offset, i.size))).map fun l i => l[i]?
  | some (.array _ e) => (P.info? e).map fun ie i => some (i * ie.size, ie.size)
  | _ => none

def pks (g : Bool) : List (Nat × AV) → Prop
  | [] => True
  | (_, x) :: l => pk g x ∧ pks g l

def vBuild (P : Program) (T : Nat) (g : Bool) (ps : List (Nat × AV)) : Option Out :=
  match zC P T, plF P T with
  | some z, some pl => match bld pl ps (z.map AV.dat) with
    | some l => some ⟨mkAgg l, [], pks g ps, True⟩
    | none => none
  | _, _ => none

def bldS (n : Nat) : List (Nat × AV) → List (List D) → Option (List (List D))
  | [], l => some l
  | (i, x) :: rest, l => match cellsOf (sp x) with
    | none => none
    | some cs => match allDat cs with
      | none => none
      | some ds => bif ds.length == n && decide (i < l.length) then bldS n rest (l.set i ds) else none

def vBuildS (P : Program) (fz : Bool) (d T : Nat) (len : Nat) (g : Bool) (σ : St) (ps : List (Nat × AV)) : Option Out :=
  match elOf P T with
  | none => none
  | some e => match zC P e with
    | none => none
    | some z => let n := szOf P e
      bif z.length == n && decide (0 < n) && decide ((len * n) ≤ 16777216) && (P.info? e).isSome then
        match bldS n ps (List.replicate len z) with
        | none => none
        | some l => bif fz then some ⟨.dat (.sl n l), [], pks g ps, True⟩
          else bif fresh d σ then some ⟨.vw d 0 len n, [(d, some (true, .arr e n l))], pks g ps, True⟩ else none
      else none

def vMake (P : Program) (fz : Bool) (d T : Nat) (g : Bool) (σ : St) (x y : AV) : Option Out :=
  match elOf P T with
  | none => none
  | some e => match zC P e with
    | none => none
    | some z => let n := szOf P e
      bif z.length == n && decide (0 < n) && decide (0 < (byOf P e)) && (P.info? e).isSome then
        match isI (sp x), isI (sp y) with
        | some (_, l), some (_, c) =>
          bif fz then some ⟨.dat (.sl n (List.replicate l.toNat z)), [], pk g x ∧ pk g y ∧ 0 ≤ l ∧ l ≤ c ∧ (byOf P e : Int) * c ≤ 281474976710656 ∧ c ≤ 9223372036854775807, True⟩
          else bif fresh d σ then some ⟨.vw d 0 l.toNat n, [(d, some (true, .arr e n (List.replicate l.toNat z)))], pk g x ∧ pk g y ∧ 0 ≤ l ∧ l ≤ c ∧ (byOf P e : Int) * c ≤ 281474976710656 ∧ c ≤ 9223372036854775807, True⟩
          else none
        | _, _ => none
      else none

def hiOf (m : Nat) : Option AV → Option Int
  | none => some m
  | some a => (isI (sp a)).map fun p => p.2
def opk (g : Bool) : Option AV → Prop
  | none => True
  | some a => pk g a

def vSlice (P : Program) (T : Nat) (g : Bool) (x : AV) (lo hi : Option AV) : Option Out :=
  match elOf P T, hiOf 0 lo with
  | some e, some l => match sp x with
    | .vw nm o m n => match hiOf m hi with
      | some h => bif szOf P e == n && (P.info? e).isSome then some ⟨.vw nm (o + l.toNat) (h.toNat - l.toNat) n, [], pk g x ∧ opk g lo ∧ opk g hi ∧ 0 ≤ l ∧ l ≤ h ∧ h ≤ m ∧ (l < m ∨ l = 0), True⟩ else none
      | none => none
    | .dat (.sl n ls) => match hiOf ls.length hi with
      | some h => bif szOf P e == n && (P.info? e).isSome then some ⟨.dat (.sl n ((ls.take h.toNat).drop l.toNat)), [], pk g x ∧ opk g lo ∧ opk g hi ∧ 0 ≤ l ∧ l ≤ h ∧ h ≤ ls.length, True⟩ else none
      | none => none
    | _ => none
  | _, _ => none

section
variable {P : Program} {w : World} {ok : Nat → Prop} {ι : Nat → Option (Nat × Nat)}

theorem zC_rep {T : Nat} {z : List D} (h : zC P T = some z) : ∃ i u, P.info? T = some i ∧ i.zero = some u ∧ RepDs ok w z u.cells.toList := by
  unfold zC at h
  cases hi : P.info? T with
  | none => simp [hi] at h
  | some i =>
    cases hz : i.zero with
    | none => simp [hi, hz] at h
    | some u =>
      simp only [hi, hz, Option.bind_some] at h
      cases ha : u.cells.toList.all Value.oneCell'
      · simp [ha] at h
      · simp only [ha, cond_true, Option.some.injEq] at h; subst h
        refine ⟨i, u, rfl, hz, ?_⟩
        generalize u.cells.toList = l at ha
        clear hz
        induction l with
        | nil => simp [RepDs]
        | cons x l ih =>
          simp only [List.all_cons, Bool.and_eq_true] at ha
          simp only [List.map_cons, RepDs]
          exact ⟨x, l, rfl, RepD_dOf _ _ _, ha.1, ih ha.2⟩

theorem madeCells_flat (z : Array Value) (n : Nat) : (madeCells z (n * z.size)).toList = (List.replicate n z.toList).flatten := by
  induction n with
  | zero => simp [madeCells]
  | succ n ih =>
    rw [List.replicate_succ', List.flatten_append, ← ih]
    simp only [madeCells, Array.toList_map, Array.toList_range, Nat.add_mul, Nat.one_mul, List.range_add, List.map_append, List.flatten_cons, List.flatten_nil, List.append_nil, List.map_map]
    congr 1
    apply List.ext_getElem?
    intro j
    by_cases hj : j < z.size
    · have hm : (n * z.size + j) % z.size = j := by rw [Nat.mul_comm, Nat.mul_add_mod]; exact Nat.mod_eq_of_lt hj
      simp [hj, hm]
    · simp [hj]

theorem RepDss_replicate {z : List D} {zs : List Value} (h : RepDs ok w z zs) : ∀ n, RepDss ok w zs.length (List.replicate n z) (List.replicate n zs).flatten
  | 0 => by simp [RepDss]
  | n + 1 => by
    simp only [List.replicate_succ, List.flatten_cons, RepDss]
    exact ⟨zs, _, rfl, rfl, h, RepDss_replicate h n⟩

theorem heap_alloc_same (w : World) (o : Obj) : (w.alloc o).heap[w.heap.size]? = some o := by show (w.heap.push o)[w.heap.size]? = _; simp
theorem heap_alloc_lt (w : World) (o : Obj) (b : Nat) (h : b < w.heap.size) : (w.alloc o).heap[b]? = w.heap[b]? := by
  show (w.heap.push o)[b]? = _
  rw [Array.getElem?_push, if_neg (by omega)]

end

section
variable {C : Ctx} {σ : St} {o : Oper} {g : Bool}

theorem cellsOf_refs {a : AV} {c : List AV} {d : Nat} (h : cellsOf a = some c) (hr : a.refs d = false) : AV.refsL d c = false := by
  unfold cellsOf at h
  split at h
  · simp only [Option.some.injEq] at h; subst h
    rename_i l
    clear hr
    induction l with
    | nil => rfl
    | cons x l ih => simp [AV.refsL, AV.refs, ih]
  · simp only [Option.some.injEq] at h; subst h
    simpa only [AV.refs] using hr
  · simp only [Option.some.injEq] at h; subst h; simp [AV.refsL, AV.refs]
  · simp only [Option.some.injEq] at h; subst h; simp [AV.refsL, AV.refs]
  · rename_i u
    cases hu : u.oneCell'
    · simp [hu] at h
    · simp only [hu, cond_true, Option.some.injEq] at h; subst h; simp [AV.refsL, AV.refs]
  · simp only [Option.some.injEq] at h; subst h; simp [AV.refsL, AV.refs]
  · simp only [Option.some.injEq] at h; subst h; simp [AV.refsL, AV.refs]
  · simp only [Option.some.injEq] at h; subst h; simpa [AV.refsL, AV.refs] using hr
  · simp only [Option.some.injEq] at h; subst h; simpa [AV.refsL, AV.refs] using hr
  · simp only [Option.some.injEq] at h; subst h; simpa [AV.refsL, AV.refs] using hr
  · simp only [Option.some.injEq] at h; subst h; simp [AV.refsL, AV.refs]
  · simp only [Option.some.injEq] at h; subst h; simpa [AV.refsL, AV.refs] using hr
  · simp only [Option.some.injEq] at h; subst h; simpa [AV.refsL, AV.refs] using hr
  · cases h

theorem sp_refs {d : Nat} : ∀ {a : AV}, a.refs d = false → (sp a).refs d = false
  | .gd _ x, h => by simp only [sp]; exact sp_refs (by simpa only [AV.refs] using h)
  | .pin _ x, h => by simp only [sp]; exact sp_refs (by simpa only [AV.refs] using h)
  | .un, h | .dat _, h | .agg _, h | .tup _, h | .rp _, h | .pt .., h | .ep .., h | .vw .., h | .cl .., h | .mp .., h => by simpa only [sp] using h

theorem opnd_refs {d : Nat} (hf : fresh d σ = true) (x : Operand) : (opnd σ.e x).refs d = false := by
  simp only [fresh, Bool.and_eq_true] at hf
  cases x with
  | tmp t => exact get_refs hf.1 t
  | const v => rfl
  | func f => rfl
  | global g => rfl

theorem SimI.newBox {ι : Nat → Option (Nat × Nat)} {a : Act} {w : World} (S : SimI C σ ι a w) {d T : Nat} {c : List AV} {cur : Array Value} (hf : fresh d σ = true) (hc : AV.refsL d c = false)
    (hr : RepAs (okOf C.F σ.h ι w) ι w true c cur.toList) :
    ∃ ι', SimI C ⟨σ.e, (d, some (true, .box T c)) :: σ.h⟩ ι' a (w.alloc (.cells cur T)) ∧ ι' d = some (w.heap.size, 0) := by
  refine ⟨_, S.new (w' := w.alloc (.cells cur T)) (p := some (w.heap.size, 0)) rfl rfl rfl (by simp) (fun b h => heap_alloc_lt w _ b h) hf (fun b c h => by simp at h; omega) (fun hok hne => ?_), by simp⟩
  refine ⟨w.heap.size, 0, cur, by simp, ⟨.inl S.size, rfl⟩, heap_alloc_same w _, ?_⟩
  refine RepAs.tr hok (fun b hb => heap_alloc_lt w _ b hb.1) true c _ (fun k hk => ?_) hr
  exact hne (.agg c) (by simpa only [AV.refs] using hc) k (by simpa only [AV.refs] using hk)

theorem snd_alloc {T d : Nat} {out : Out} (ho : o.op = .alloc T) (h : vAlloc C.P d T σ = some out) : Snd C o g σ out := by
  unfold vAlloc at h
  split at h
  · rename_i z hz
    cases hf : fresh d σ
    · simp [hf] at h
    · simp only [hf, cond_true, Option.some.injEq] at h; subst h
      intro ι a w S hg hs
      obtain ⟨i, u, h1, h2, h3⟩ := zC_rep (ok := okOf C.F σ.h ι w) (w := w) hz
      obtain ⟨ι', S', hd⟩ := S.newBox (T := T) (cur := u.cells) hf (by
        clear hz h3
        induction z with
        | nil => rfl
        | cons x l ih => simp [AV.refsL, AV.refs, ih]) (RepAs_dat.2 h3)
      refine ⟨_, _, .pointer (some ⟨w.heap.size, 0, none⟩), ?_, .inl rfl, trivial, ι', S', by simp only [RepA]; exact ⟨_, _, hd, rfl⟩⟩
      simp [execOp, ho, Instr.alloc, zeroValue, typeInfo, h1, h2, newVar, newRow]
  · cases h

theorem snd_box {T d : Nat} {x : Operand} {out : Out} (ho : o.op = .box T x) (h : vBox d T g σ (opnd σ.e x) = some out) : Snd C o g σ out := by
  unfold vBox at h
  split at h
  · rename_i c hc
    cases hf : fresh d σ
    · simp [hf] at h
    · simp only [hf, cond_true, Option.some.injEq] at h; subst h
      intro ι a w S hg hs
      have ex := cellsOf_rep (S.sopnd hg x hs) hc
      obtain ⟨ι', S', hd⟩ := S.newBox (T := T) (cur := (a.eval x).cells) hf (cellsOf_refs hc (sp_refs (opnd_refs hf x))) ex
      refine ⟨_, _, .pointer (some ⟨w.heap.size, 0, none⟩), ?_, .inl rfl, trivial, ι', S', by simp only [RepA]; exact ⟨_, _, hd, rfl⟩⟩
      simp [execOp, ho, Instr.box, newVar, newRow]
  · cases h

theorem pks_get {g : Bool} : ∀ {ps : List (Nat × AV)}, pks g ps → ∀ (k : Nat) (p : Nat × AV), ps[k]? = some p → pk g p.2
  | [], _, k, p, h => by simp at h
  | (i, x) :: l, hp, 0, p, h => by simp only [pks] at hp; simp at h; subst h; exact hp.1
  | (i, x) :: l, hp, k + 1, p, h => by simp only [pks] at hp; exact pks_get hp.2 k p (by simpa using h)

def partsA (e : List (Nat × AV)) (ps : Array (Nat × Operand)) : List (Nat × AV) := ps.toList.map fun p => (p.1, opnd e p.2)

theorem parts_rep {ι : Nat → Option (Nat × Nat)} {a : Act} {w : World} (S : SimI C σ ι a w) {ps : Array (Nat × Operand)} (hp : pks g (partsA σ.e ps)) :
    ∀ (k : Nat) (p : Nat × AV) (q : Nat × Value), (partsA σ.e ps)[k]? = some p → ((ps.map fun (i, x) => (i, a.eval x)).toList)[k]? = some q → RepA (okOf C.F σ.h ι w) ι w p.2 q.2 ∧ pk g p.2 := by
  intro k p q h1 h2
  refine ⟨?_, pks_get hp k p h1⟩
  simp only [partsA, List.getElem?_map, Option.map_eq_some_iff] at h1
  obtain ⟨r, hr, rfl⟩ := h1
  simp only [Array.toList_map, List.getElem?_map, hr, Option.map_some, Option.some.injEq] at h2
  subst h2
  exact S.opnd r.2

theorem snd_build {T : Nat} {ps : Array (Nat × Operand)} {out : Out} (ho : o.op = .build T ps) (h : vBuild C.P T g (partsA σ.e ps) = some out) : Snd C o g σ out := by
  unfold vBuild at h
  split at h
  · rename_i z pl hz hpl
    split at h
    · rename_i l hb
      simp only [Option.some.injEq] at h; subst h
      refine Snd.pure fun ι a w S hg hs => ?_
      obtain ⟨i, u, h1, h2, h3⟩ := zC_rep (ok := okOf C.F σ.h ι w) (w := w) hz
      obtain ⟨cells', h4, h5⟩ := bld_rep (ι := ι) hg pl (partsA σ.e ps) ((ps.map fun (i, x) => (i, a.eval x)).toList) _ l u.cells (by simp [partsA, Function.comp_def]) (parts_rep S hs) (RepAs_dat.2 h3) hb
      refine ⟨.agg cells', ?_, trivial, by simpa using mkAgg_rep h5⟩
      have hbt : C.P.built T ((ps.map fun (i, x) => (i, a.eval x)).toList) = some cells' := by
        unfold plF at hpl
        unfold Program.built
        split at hpl
        · rename_i fs hu
          simp only [Option.map_eq_some_iff] at hpl
          obtain ⟨places, hp1, rfl⟩ := hpl
          simp only [h1, hu, h2, hp1]
          simpa using h4
        · rename_i n e hu
          simp only [Option.map_eq_some_iff] at hpl
          obtain ⟨ie, hp1, rfl⟩ := hpl
          simp only [h1, hu, h2, hp1]
          exact h4
        · cases hpl
      simp only [execOp, ho, Sem.run_bind, run_build w T _ cells' hbt, Result.andThen_ok, Sem.run_pure]
    · cases h
  · cases h

theorem bldS_rep {ok : Nat → Prop} {ι : Nat → Option (Nat × Nat)} {w : World} {n : Nat} (hg : g = true) : ∀ (ps : List (Nat × AV)) (vs : List (Nat × Value)) (l l' : List (List D)) (cells : Array Value),
    ps.map (·.1) = vs.map (·.1) → (∀ (k : Nat) (p : Nat × AV) (q : Nat × Value), ps[k]? = some p → vs[k]? = some q → RepA ok ι w p.2 q.2 ∧ pk g p.2) →
    RepDss ok w n l cells.toList → bldS n ps l = some l' → ∃ cells', Instr.fill (fun i => some (i * n, n)) cells vs = some cells' ∧ RepDss ok w n l' cells'.toList ∧ l'.length = l.length
  | [], [], l, l', cells, _, _, h, hb => by
    simp only [bldS, Option.some.injEq] at hb; subst hb
    exact ⟨cells, rfl, h, rfl⟩
  | [], _ :: _, l, l', cells, hm, _, h, hb => by simp at hm
  | _ :: _, [], l, l', cells, hm, _, h, hb => by simp at hm
  | (i, x) :: ps, (i', v) :: vs, l, l', cells, hm, hr, h, hb => by
    simp only [List.map_cons, List.cons.injEq] at hm
    obtain ⟨rfl, hm⟩ := hm
    simp only [bldS] at hb
    cases hc : cellsOf (sp x) with
    | none => simp [hc] at hb
    | some cs =>
      simp only [hc] at hb
      cases hd : allDat cs with
      | none => simp [hd] at hb
      | some ds =>
        simp only [hd] at hb
        have := allDat_eq hd
        subst this
        obtain ⟨hx, hpk⟩ := hr 0 (i, x) (i, v) rfl rfl
        have hcs := RepAs_dat.1 (cellsOf_rep (sp_rep hg hpk hx) hc)
        have hl1 := RepDs_length hcs
        have hl2 := RepDss_length h
        cases ht : (ds.length == n && decide (i < l.length)) with
        | false => simp [ht] at hb
        | true =>
          simp only [ht, cond_true] at hb
          simp only [Bool.and_eq_true, beq_iff_eq, decide_eq_true_eq] at ht
          have hin : i * n + n ≤ l.length * n := by
            have : (i + 1) * n ≤ l.length * n := Nat.mul_le_mul_right n ht.2
            rw [Nat.add_mul] at this; omega
          have hcell : cells.size = l.length * n := by simpa using hl2
          have hsz : v.cells.size = n := by simp at hl1; omega
          have e := foldl_set_spl (i * n) v.cells.toList 0 cells (by simp [hsz]; omega)
          simp only [Nat.add_zero] at e
          have hset := RepDss_set i h ht.2 hcs (by simpa using hsz)
          obtain ⟨cells', h1, h2, h3⟩ := bldS_rep hg ps vs (l.set i ds) l' (v.cells.zipIdx.foldl (fun cs (p : Value × Nat) => cs.setIfInBounds (i * n + p.2) p.1) cells) hm
            (fun k p q hk hq => hr (k + 1) p q (by simpa using hk) (by simpa using hq)) (by
              rw [← Array.foldl_toList, Array.toList_zipIdx, e]
              unfold spl
              have : v.cells.toList.length = n := by simpa using hsz
              rw [this]
              exact hset) hb
          refine ⟨cells', ?_, h2, by simpa using h3⟩
          simp only [Instr.fill]
          rw [if_neg (by simp [hsz]; omega)]
          exact h1

theorem SimI.newArr {ι : Nat → Option (Nat × Nat)} {a : Act} {w w' : World} (S : SimI C σ ι a w) {d T n cap : Nat} {l : List (List D)} {cur : Array Value} (hf : fresh d σ = true)
    (ho : w'.os = w.os) (ht : w'.tape = w.tape) (hu : w'.output = w.output) (hh : w'.heap = w.heap.push (.cells cur T))
    (hr : RepDss (okOf C.F σ.h ι w) w n l (cur.toList.take (l.length * n))) (hs : cur.size = cap * n) (hl : l.length ≤ cap) (hm : cap ≤ maxLen ∧ l.length ≤ 281474976710656) :
    ∃ ι', SimI C ⟨σ.e, (d, some (true, .arr T n l)) :: σ.h⟩ ι' a w' ∧ ι' d = some (w.heap.size, cap) := by
  have hlt : ∀ b, b < w.heap.size → w'.heap[b]? = w.heap[b]? := fun b h => by
    rw [hh, Array.getElem?_push, if_neg (by omega)]
  refine ⟨_, S.new (w' := w') (p := some (w.heap.size, cap)) ho ht hu (by simp [hh]) hlt hf (fun b c h => by simp at h; omega) (fun hok hne => ?_), by simp⟩
  exact .inr ⟨w.heap.size, cap, cur, by simp, .inl S.size, by simp [hh], hs, hl, hm, RepDss.tr hok (fun b hb => hlt b hb.1) n l _ hr⟩

theorem snd_buildS {fz : Bool} {T d len : Nat} {ps : Array (Nat × Operand)} {out : Out} (ho : o.op = .buildSlice T len ps) (h : vBuildS C.P fz d T len g σ (partsA σ.e ps) = some out) : Snd C o g σ out := by
  unfold vBuildS at h
  split at h
  · cases h
  · rename_i e he
    split at h
    · cases h
    · rename_i z hz
      cases hcnd : (z.length == szOf C.P e && decide (0 < (szOf C.P e)) && decide ((len * szOf C.P e) ≤ 16777216) && (C.P.info? e).isSome)
      · simp [hcnd] at h
      · simp only [hcnd, cond_true] at h
        simp only [Bool.and_eq_true, beq_iff_eq, decide_eq_true_eq] at hcnd
        obtain ⟨⟨⟨c1, c2⟩, c3⟩, c4⟩ := hcnd
        split at h
        · cases h
        · rename_i l hb
          have key : ∀ ι a w, SimI C σ ι a w → g = true → pks g (partsA σ.e ps) → ∃ cells', (Instr.buildSlice T len (ps.map fun (i, x) => (i, a.eval x))).run C.P w = .ok (.slice (some ⟨w.heap.size, 0, none⟩) len len) (w.alloc (.cells cells' e)) ∧
              RepDss (okOf C.F σ.h ι w) w (szOf C.P e) l cells'.toList ∧ l.length = len := by
            intro ι a w S hg hs
            obtain ⟨i, u, h1, h2, h3⟩ := zC_rep (ok := okOf C.F σ.h ι w) (w := w) hz
            have hzs : u.cells.size = szOf C.P e := by have := RepDs_length h3; simp at this; omega
            have hrep := RepDss_replicate h3 len
            have hfl : (madeCells u.cells (len * szOf C.P e)).toList = (List.replicate len u.cells.toList).flatten := by rw [← hzs]; exact madeCells_flat _ _
            rw [← hfl] at hrep
            have : u.cells.toList.length = szOf C.P e := by simpa using hzs
            rw [this] at hrep
            obtain ⟨cells', h4, h5, h6⟩ := bldS_rep (ι := ι) hg (partsA σ.e ps) ((ps.map fun (i, x) => (i, a.eval x)).toList) _ l (madeCells u.cells (len * szOf C.P e)) (by simp [partsA, Function.comp_def]) (parts_rep S hs) hrep hb
            refine ⟨cells', ?_, h5, by simpa using h6⟩
            have hsz := run_sizeOf (P := C.P) (w := w) (e := e) (n := szOf C.P e) (by simp [c4])
            have hn : ¬ (16777216 < len * szOf C.P e) := by omega
            by_cases h0 : len * szOf C.P e = 0
            · have hl0 : len = 0 := by
                rcases Nat.mul_eq_zero.1 h0 with h | h
                · exact h
                · omega
              subst hl0
              have he0 : madeCells u.cells (0 * szOf C.P e) = (#[] : Array Value) := by simp [madeCells, Array.range_zero']
              rw [he0] at h4
              simp only [Array.toList_map] at h4
              simp [Instr.buildSlice, run_underlying (elOf_some he), hsz, newRow, Array.range_zero', h4]
            · have hz2 : (zeroValue e).run C.P w = .ok u w := by simp [zeroValue, typeInfo, h1, h2]
              have hmc : (Array.range (len * szOf C.P e)).map (u.cells[· % u.cells.size]!) = madeCells u.cells (len * szOf C.P e) := rfl
              simp only [Array.toList_map] at h4
              simp [Instr.buildSlice, run_underlying (elOf_some he), hsz, hn, h0, hz2, newRow, hmc, h4]
          cases fz
          · simp only [cond_false] at h
            cases hf : fresh d σ
            · simp [hf] at h
            · simp only [hf, cond_true, Option.some.injEq] at h; subst h
              intro ι a w S hg hs
              obtain ⟨cells', h1, h2, h3⟩ := key ι a w S hg hs
              have hsz : cells'.size = len * szOf C.P e := by have := RepDss_length h2; simp at this; rw [this, h3]
              have hml : len ≤ maxLen ∧ l.length ≤ 281474976710656 := by
                have : len * 1 ≤ len * szOf C.P e := Nat.mul_le_mul_left len c2
                simp only [maxLen]; omega
              obtain ⟨ι', S', hd⟩ := S.newArr (w' := w.alloc (.cells cells' e)) (T := e) (cap := len) hf rfl rfl rfl rfl (by rw [h3, List.take_of_length_le (by simp [hsz])]; exact h2) hsz (by omega) hml
              refine ⟨_, _, .slice (some ⟨w.heap.size, 0, none⟩) len len, by simp only [execOp, ho, Sem.run_bind, h1, Result.andThen_ok, Sem.run_pure], .inl rfl, trivial, ι', S', ?_⟩
              simp only [RepA]
              exact .inr ⟨_, _, hd, by simp, by omega⟩
          · simp only [cond_true, Option.some.injEq] at h; subst h
            intro ι a w S hg hs
            obtain ⟨cells', h1, h2, h3⟩ := key ι a w S hg hs
            have hsz : cells'.size = len * szOf C.P e := by have := RepDss_length h2; simp at this; rw [this, h3]
            have hml : l.length ≤ 281474976710656 := by
              have : len * 1 ≤ len * szOf C.P e := Nat.mul_le_mul_left len c2
              omega
            have S' := S.grow (w' := w.alloc (.cells cells' e)) rfl rfl rfl (by simp) (fun b h => heap_alloc_lt w _ b h)
            refine ⟨_, _, .slice (some ⟨w.heap.size, 0, none⟩) len len, by simp only [execOp, ho, Sem.run_bind, h1, Result.andThen_ok, Sem.run_pure], .inl rfl, trivial, ι, S', ?_⟩
            simp only [RepA, RepD, List.nil_append]
            have hok : ∀ b, okOf C.F σ.h ι w b → okOf C.F σ.h ι (w.alloc (.cells cells' e)) b := fun b h => ⟨by have := h.1; simp; omega, h.2⟩
            refine ⟨hml, .inr ⟨w.heap.size, 0, len, cells'.toList, by rw [h3], by omega, ⟨by simp, fun nm x c hx hi => ?_, fun hF => absurd S.size (Nat.not_le.2 hF.2.1)⟩, RepDss.tr hok (fun b hb => heap_alloc_lt w _ b hb.1) _ l _ h2, ?_⟩⟩
            · have := S.live_lt hx hi; omega
            · have := cellsAt_block (o := 0) (heap_alloc_same w (.cells cells' e))
              simpa using this

theorem snd_make {fz : Bool} {T d : Nat} {x y : Operand} {out : Out} (ho : o.op = .makeSlice T x y) (h : vMake C.P fz d T g σ (opnd σ.e x) (opnd σ.e y) = some out) : Snd C o g σ out := by
  unfold vMake at h
  split at h
  · cases h
  · rename_i e he
    split at h
    · cases h
    · rename_i z hz
      cases hcnd : (z.length == szOf C.P e && decide (0 < (szOf C.P e)) && decide (0 < (byOf C.P e)) && (C.P.info? e).isSome)
      · simp [hcnd] at h
      · simp only [hcnd, cond_true] at h
        simp only [Bool.and_eq_true, beq_iff_eq, decide_eq_true_eq] at hcnd
        obtain ⟨⟨⟨c1, c2⟩, c2b⟩, c4⟩ := hcnd
        have hcb : ∀ c : Int, 0 ≤ c → (byOf C.P e : Int) * c ≤ 281474976710656 → c ≤ 281474976710656 := fun c h0 hc => by
          have : (1 : Int) * c ≤ (byOf C.P e : Int) * c := Int.mul_le_mul_of_nonneg_right (by omega) h0
          omega
        split at h
        · rename_i k1 l k2 c hx hy
          have key : ∀ ι a w, SimI C σ ι a w → g = true → pk g (opnd σ.e x) ∧ pk g (opnd σ.e y) ∧ 0 ≤ l ∧ l ≤ c ∧ (byOf C.P e : Int) * c ≤ 281474976710656 ∧ c ≤ 9223372036854775807 →
              ∃ cur : Array Value, (execOp a.eval o).run C.P w = .ok (.value (.slice (some ⟨w.heap.size, 0, none⟩) l.toNat c.toNat)) (w.alloc (.cells cur e)) ∧ cur.size = c.toNat * szOf C.P e ∧
              RepDss (okOf C.F σ.h ι w) w (szOf C.P e) (List.replicate l.toNat z) (cur.toList.take (l.toNat * szOf C.P e)) := by
            intro ι a w S hg hs
            obtain ⟨p1, p2, s1, s2, s3, s4⟩ := hs
            have ex := isI_rep (S.sopnd hg x p1) hx
            have ey := isI_rep (S.sopnd hg y p2) hy
            obtain ⟨i, u, h1, h2, h3⟩ := zC_rep (ok := okOf C.F σ.h ι w) (w := w) hz
            have hzs : u.cells.size = szOf C.P e := by have := RepDs_length h3; simp at this; omega
            have his : i.size = szOf C.P e := by simp [szOf, h1]
            have hib : byOf C.P e = i.bytes := by simp [byOf, h1]
            have hrun := run_make (P := C.P) w T e i u (elOf_some he) h1 h2 k1 k2 l c s1 s2 (by rw [← hib]; exact s3) s4
            rw [his] at hrun
            refine ⟨madeCells u.cells (c.toNat * szOf C.P e), by simp only [execOp, ho, ex, ey, Sem.run_bind, hrun, Result.andThen_ok, Sem.run_pure], size_madeCells _ _, ?_⟩
            have hrep := RepDss_replicate h3 c.toNat
            have : u.cells.toList.length = szOf C.P e := by simpa using hzs
            rw [this] at hrep
            have hfl : (madeCells u.cells (c.toNat * szOf C.P e)).toList = (List.replicate c.toNat u.cells.toList).flatten := by rw [← hzs]; exact madeCells_flat _ _
            rw [← hfl] at hrep
            have := RepDss_take l.toNat hrep
            rwa [List.take_replicate, Nat.min_eq_left (by omega)] at this
          cases fz
          · simp only [cond_false] at h
            cases hf : fresh d σ
            · simp [hf] at h
            · simp only [hf, cond_true, Option.some.injEq] at h; subst h
              intro ι a w S hg hs
              obtain ⟨cur, h1, h2, h3⟩ := key ι a w S hg hs
              obtain ⟨p1, p2, s1, s2, s3, s4⟩ := hs
              obtain ⟨ι', S', hd⟩ := S.newArr (w' := w.alloc (.cells cur e)) (T := e) (n := szOf C.P e) (l := List.replicate l.toNat z) (cap := c.toNat) hf rfl rfl rfl rfl (by simpa using h3) h2 (by simp; omega) (by have := hcb c (by omega) s3; simp [maxLen]; omega)
              refine ⟨_, _, _, h1, .inl rfl, trivial, ι', S', ?_⟩
              simp only [RepA]
              exact .inr ⟨_, _, hd, by simp, by omega⟩
          · simp only [cond_true, Option.some.injEq] at h; subst h
            intro ι a w S hg hs
            obtain ⟨cur, h1, h2, h3⟩ := key ι a w S hg hs
            obtain ⟨p1, p2, s1, s2, s3, s4⟩ := hs
            have S' := S.grow (w' := w.alloc (.cells cur e)) rfl rfl rfl (by simp) (fun b h => heap_alloc_lt w _ b h)
            refine ⟨_, _, _, h1, .inl rfl, trivial, ι, S', ?_⟩
            simp only [RepA, RepD, List.nil_append]
            have hok : ∀ b, okOf C.F σ.h ι w b → okOf C.F σ.h ι (w.alloc (.cells cur e)) b := fun b h => ⟨by have := h.1; simp; omega, h.2⟩
            refine ⟨by have := hcb c (by omega) s3; simp; omega, .inr ⟨w.heap.size, 0, c.toNat, _, by simp, by simp; omega, ⟨by simp, fun nm x c hx hi => ?_, fun hF => absurd S.size (Nat.not_le.2 hF.2.1)⟩, RepDss.tr hok (fun b hb => heap_alloc_lt w _ b hb.1) _ _ _ h3, ?_⟩⟩
            · have := S.live_lt hx hi; omega
            · have := cellsAt_take (k := l.toNat * szOf C.P e) (cellsAt_block (o := 0) (heap_alloc_same w (.cells cur e)))
              simpa using this
        · cases h
end
end Go.Eng

namespace Go.Eng
open Go.RowKit

def vStore (P : Program) (T : Nat) (g : Bool) (h : Hp) (x y : AV) : Option Out :=
  match tyOf P T, cellsOf (sp y) with
  | some (sz, _), some cs => bif cs.length == sz then (match sp x with
    | .pt nm o => match geth h nm with
      | some (g', .box T' c) => bif decide ((o + sz) ≤ c.length) then some ⟨.un, [(nm, some (true, .box T' (spl c o cs)))], pk g x ∧ pk g y ∧ g' = true, True⟩ else none
      | _ => none
    | .ep nm k f n => match geth h nm, allDat cs with
      | some (g', .arr T' n' l), some ds => bif n == n' && decide ((f + sz) ≤ n) then some ⟨.un, [(nm, some (true, .arr T' n' (l.set k (spl (elt P T' l k) f ds))))], pk g x ∧ pk g y ∧ g' = true ∧ k < l.length, True⟩ else none
      | _, _ => none
    | _ => none) else none
  | _, _ => none

def minL (m : Int) : List AV → Option Int
  | [] => some m
  | a :: l => match isI (sp a) with
    | some (.i64, n) => minL (min m n) l
    | _ => none
def maxL (m : Int) : List AV → Option Int
  | [] => some m
  | a :: l => match isI (sp a) with
    | some (.i64, n) => maxL (max m n) l
    | _ => none
def pkl (g : Bool) : List AV → Prop
  | [] => True
  | a :: l => pk g a ∧ pkl g l

def vLen (P : Program) (T : Nat) (g : Bool) (h : Hp) (x : AV) : Option Out :=
  match elOf P T with
  | none => none
  | some _ => match sp x with
    | .vw nm _ m _ => some ⟨.dat (.i m), [], pk g x, match geth h nm with
      | some (g', .arr ..) => g' = true → m ≤ maxLen
      | _ => True⟩
    | .dat (.sl _ l) => some ⟨.dat (.i l.length), [], pk g x, l.length ≤ 281474976710656⟩
    | .dat (.v (.slice _ n _)) => some ⟨.dat (.i n), [], pk g x, True⟩
    | _ => none

section
variable {C : Ctx} {σ : St} {o : Oper} {g : Bool}

theorem spl_in {α : Type} (m1 m2 m3 vs : List α) (f : Nat) (h : f + vs.length ≤ m2.length) : spl (m1 ++ m2 ++ m3) (m1.length + f) vs = m1 ++ spl m2 f vs ++ m3 := by
  unfold spl
  have e1 : (m1 ++ m2 ++ m3).take (m1.length + f) = m1 ++ m2.take f := by
    rw [List.append_assoc, List.take_length_add_append, List.take_append_of_le_length (by omega)]
  have e2 : (m1 ++ m2 ++ m3).drop (m1.length + f + vs.length) = m2.drop (f + vs.length) ++ m3 := by
    rw [List.append_assoc, Nat.add_assoc, List.drop_length_add_append, List.drop_append_of_le_length (by omega)]
  rw [e1, e2]
  simp

theorem spl_row {α : Type} (cl vs : List α) (K n f L : Nat) (h1 : f + vs.length ≤ n) (h2 : K + n ≤ L) (h3 : L ≤ cl.length) :
    (spl cl (K + f) vs).take L = (cl.take L).take K ++ spl (((cl.take L).drop K).take n) f vs ++ (cl.take L).drop (K + n) := by
  have e0 : (spl cl (K + f) vs).take L = spl (cl.take L) (K + f) vs := by
    have hc : cl = cl.take L ++ [] ++ cl.drop L := by simp
    have := spl_in [] (cl.take L) (cl.drop L) vs (K + f) (by simp; omega)
    simp only [List.nil_append, List.length_nil, Nat.zero_add, List.take_append_drop] at this
    rw [this]
    have hl : (spl (cl.take L) (K + f) vs).length = L := by simp [spl]; omega
    rw [List.take_append_of_le_length (by omega), List.take_of_length_le (by omega)]
  rw [e0]
  have hm : (cl.take L).length = L := by simp; omega
  generalize cl.take L = m at hm
  have hd : m = m.take K ++ (m.drop K).take n ++ m.drop (K + n) := by
    rw [List.append_assoc, ← List.drop_drop, List.take_append_drop, List.take_append_drop]
  have := spl_in (m.take K) ((m.drop K).take n) (m.drop (K + n)) vs f (by simp; omega)
  rw [← hd] at this
  have hk : (m.take K).length = K := by simp; omega
  rw [hk] at this
  exact this

theorem snd_store {T : Nat} {x y : Operand} {out : Out} (ho : o.op = .store T x y) (h : vStore C.P T g σ.h (opnd σ.e x) (opnd σ.e y) = some out) : Snd C o g σ out := by
  unfold vStore at h
  split at h
  · rename_i sz ag cs ht hcs
    cases hl : cs.length == sz
    · simp [hl] at h
    · simp only [hl, cond_true] at h
      simp only [beq_iff_eq] at hl
      split at h
      · rename_i nm oo hx
        split at h
        · rename_i g' T' c hh
          cases hb : decide ((oo + sz) ≤ c.length)
          · simp [hb] at h
          · simp only [hb, cond_true, Option.some.injEq] at h; subst h
            simp only [decide_eq_true_eq] at hb
            intro ι a w S hg hs
            obtain ⟨p1, p2, p3⟩ := hs
            have ex := S.sopnd hg x p1
            rw [hx] at ex
            simp only [RepA] at ex
            obtain ⟨b, cc, hi, ex⟩ := ex
            have ey := cellsOf_rep (S.sopnd hg y p2) hcs
            obtain ⟨b', cap, cur, h1, h2, h3, h4⟩ := S.box hh p3
            rw [hi] at h1; simp only [Option.some.injEq, Prod.mk.injEq] at h1
            obtain ⟨rfl, rfl⟩ := h1
            have l1 := RepAs_length ey
            have l2 := RepAs_length h4
            simp only [Array.length_toList] at l1 l2
            have hst := run_storeCells_at C.P b oo T' (a.eval y).cells.toList 0 cur w h3 (by simp; omega) (RepAs_one ey)
            simp only [Nat.add_zero] at hst
            refine ⟨.skip, _, undef, ?_, .inr ⟨rfl, rfl⟩, trivial, ι, S.write (w' := w.setRow b (spl cur.toList oo (a.eval y).cells.toList).toArray) (by rw [hh, p3]) hi (setRow_heap w b cur _ T' (0, 0) h3) rfl rfl rfl (by simp) (fun k hk => setRow_other w b k _ hk) (fun hok hw => ?_), by simp only [RepA]⟩
            · have hsz := ty_size (w := w) ht
              have hne : ¬ ((a.eval y).cells.size ≠ sz) := by omega
              simp only [execOp, ho, Sem.run_bind, Instr.storeAt, ex, Instr.sureAddr, Sem.run_pure, Result.andThen_ok, storeVar, hsz, hne, if_false, hst]
              rfl
            · exact ⟨b, cc, _, hi, h2, setRow_heap w b cur _ T' (0, 0) h3, by simpa using RepAs_spl (RepAs.tr hok hw true c _ (fun _ _ => rfl) h4) (RepAs.tr hok hw true cs _ (fun _ _ => rfl) ey)⟩
        · cases h
      · rename_i nm k f n hx
        split at h
        · rename_i g' T' n' l ds hh hd
          cases hb : (n == n' && decide ((f + sz) ≤ n))
          · simp [hb] at h
          · simp only [hb, cond_true, Option.some.injEq] at h; subst h
            simp only [Bool.and_eq_true, beq_iff_eq, decide_eq_true_eq] at hb
            obtain ⟨rfl, hb⟩ := hb
            have := allDat_eq hd
            subst this
            intro ι a w S hg hs
            obtain ⟨p1, p2, p3, hk⟩ := hs
            have ex := S.sopnd hg x p1
            rw [hx] at ex
            simp only [RepA] at ex
            obtain ⟨b, cc, hi, ex⟩ := ex
            have ey := RepAs_dat.1 (cellsOf_rep (S.sopnd hg y p2) hcs)
            obtain ⟨b', cap, cur, h1, h2, h3, h4, h5, h6, h7⟩ := S.arr hh p3 (by omega)
            rw [hi] at h1; simp only [Option.some.injEq, Prod.mk.injEq] at h1
            obtain ⟨rfl, rfl⟩ := h1
            have l1 := RepDs_length ey
            simp only [Array.length_toList] at l1
            simp only [List.length_map] at hl
            have l2 := RepDss_length h7
            obtain ⟨q1, q2⟩ := RepDss_at k h7 (elt_some (P := C.P) (T := T') hk)
            have hkn : k * n + n ≤ l.length * n := by
              have : (k + 1) * n ≤ l.length * n := Nat.mul_le_mul_right n hk
              rw [Nat.add_mul] at this; omega
            have hln : l.length * n ≤ cur.size := by rw [h4]; exact Nat.mul_le_mul_right n h5
            have hst := run_storeCells_at C.P b (k * n + f) T' (a.eval y).cells.toList 0 cur w h3 (by simp; omega) (RepDs_one ey)
            simp only [Nat.add_zero] at hst
            refine ⟨.skip, _, undef, ?_, .inr ⟨rfl, rfl⟩, trivial, ι, S.write (w' := w.setRow b (spl cur.toList (k * n + f) (a.eval y).cells.toList).toArray) (by rw [hh, p3]) hi (setRow_heap w b cur _ T' (0, 0) h3) rfl rfl rfl (by simp) (fun k hk => setRow_other w b k _ hk) (fun hok hw => ?_), by simp only [RepA]⟩
            · have hsz := ty_size (w := w) ht
              have hne : ¬ ((a.eval y).cells.size ≠ sz) := by omega
              simp only [execOp, ho, Sem.run_bind, Instr.storeAt, ex, Instr.sureAddr, Sem.run_pure, Result.andThen_ok, storeVar, hsz, hne, if_false, hst]
              rfl
            · have hset := RepDss_set k (RepDss.tr hok hw n l _ h7) hk (RepDs_spl (o := f) (RepDs.tr hok hw _ _ q1) (RepDs.tr hok hw _ _ ey)) (by simp [spl]; omega)
              refine .inr ⟨b, cc, _, hi, h2, setRow_heap w b cur _ T' (0, 0) h3, ?_, by simpa using h5, ⟨h6.1, by simpa using h6.2⟩, ?_⟩
              · simp [spl]; omega
              · rw [List.length_set]
                refine cast (congrArg _ ?_) hset
                exact (spl_row cur.toList (a.eval y).cells.toList (k * n) n f (l.length * n) (by simp; omega) hkn (by simpa using hln)).symm
        · cases h
      · cases h
  · cases h

end
end Go.Eng

namespace Go.Eng
open Go.RowKit

section
variable {C : Ctx} {σ : St} {o : Oper} {g : Bool}

theorem SimI.hcongr {e : List (Nat × AV)} {h h' : Hp} {ι : Nat → Option (Nat × Nat)} {a : Act} {w : World} (S : SimI C ⟨e, h⟩ ι a w) (hh : ∀ k, geth h' k = geth h k) : SimI C ⟨e, h'⟩ ι a w := by
  have hok : okOf C.F h' ι w = okOf C.F h ι w := by
    funext b; simp only [okOf, hh]
  refine ⟨fun s => ?_, fun nm x hx => ?_, fun nm nm' x x' b c c' h1 h2 => S.inj nm nm' x x' b c c' (by rw [← hh]; exact h1) (by rw [← hh]; exact h2), S.os, S.tape, S.output, S.size, S.old, S.def0, S.tms⟩
  · have := S.env s
    simp only [hok]; exact this
  · have := S.ent nm x (by rw [← hh]; exact hx)
    simp only [hok]; exact this

theorem run_call_builtin {P : Program} {w : World} {ρ : Operand → Value} {b : Builtin} {args : Array Operand} {ts : Array TypeId} (ho : o.op = .call ⟨.builtin b, args, ts⟩) :
    ∃ cs, (execOp ρ o).run P w = (builtin b ts o.type cs (args.map ρ)).run P w := by
  refine ⟨args.map fun | .const _ => true | _ => false, ?_⟩
  simp only [execOp, ho, resolve, Sem.run_bind, Sem.run_pure, Result.andThen_ok, invoke]
  rfl

theorem snd_len {T : Nat} {x : Operand} {out : Out} (ho : o.op = .call ⟨.builtin .len, #[x], #[T]⟩) (h : vLen C.P T g σ.h (opnd σ.e x) = some out) : Snd C o g σ out := by
  unfold vLen at h
  split at h
  · cases h
  · rename_i e he
    have hu := elOf_some he
    have hel : C.P.elem T = e := by simp [Program.elem, hu]
    have key : ∀ (a : Act) (w : World) (b : Option Addr) (n c : Nat), a.eval x = .slice b n c → (execOp a.eval o).run C.P w = .ok (.value (.int .i64 n)) w := by
      intro a w b n c hx
      obtain ⟨cs, hcs⟩ := run_call_builtin (P := C.P) (w := w) (ρ := a.eval) ho
      rw [hcs]
      have := run_len_slice (P := C.P) w T o.type b n c (by rw [hel]; exact hu)
      simp [builtin, hx, this, goInt]
    split at h
    · rename_i nm oo m n hx
      simp only [Option.some.injEq] at h; subst h
      refine Snd.pure fun ι a w S hg hs => ?_
      have ex := S.sopnd hg x hs
      rw [hx] at ex
      simp only [RepA] at ex
      have hk : (match geth σ.h nm with | some (g', .arr ..) => g' = true → m ≤ maxLen | _ => True) := by
        split
        · rename_i g' T' n' l hh
          intro hg'
          subst hg'
          rcases ex with ⟨_, _, _, rfl⟩ | ⟨b, c, hi, _, hle⟩
          · exact Nat.zero_le _
          · rcases S.ent nm _ hh with ⟨h1, _⟩ | ⟨b', cap, cur, h1, _, _, _, _, h6, _⟩
            · rw [hi] at h1; cases h1
            · rw [hi] at h1; simp only [Option.some.injEq, Prod.mk.injEq] at h1
              rw [h1.2] at hle; omega
        · trivial
      rcases ex with ⟨_, ex, _, rfl⟩ | ⟨b, c, hi, ex, hle⟩
      · exact ⟨_, key a w _ _ _ ex, hk, by simp [RepA, RepD]⟩
      · exact ⟨_, key a w _ _ _ ex, hk, by simp [RepA, RepD]⟩
    · rename_i n l hx
      simp only [Option.some.injEq] at h; subst h
      refine Snd.pure fun ι a w S hg hs => ?_
      have ex := S.sopnd hg x hs
      rw [hx] at ex
      simp only [RepA, RepD] at ex
      obtain ⟨hm, ex⟩ := ex
      rcases ex with ⟨rfl, b, cap, ex⟩ | ⟨b, oo, cap, vs, ex, _⟩
      · exact ⟨_, key a w _ _ _ ex, hm, by simp [RepA, RepD]⟩
      · exact ⟨_, key a w _ _ _ ex, hm, by simp [RepA, RepD]⟩
    · rename_i b n c hx
      simp only [Option.some.injEq] at h; subst h
      refine Snd.pure fun ι a w S hg hs => ?_
      have ex := S.sopnd hg x hs
      rw [hx] at ex
      simp only [RepA, RepD] at ex
      exact ⟨_, key a w _ _ _ ex, trivial, by simp [RepA, RepD]⟩
    · cases h

def vMin (g : Bool) (l : List AV) : Option Out :=
  match l with
  | [] => none
  | x :: r => match isI (sp x) with
    | some (.i64, m) => match minL m r with
      | some n => some ⟨.dat (.i n), [], pkl g l, True⟩
      | none => none
    | _ => none
def vMax (g : Bool) (l : List AV) : Option Out :=
  match l with
  | [] => none
  | x :: r => match isI (sp x) with
    | some (.i64, m) => match maxL m r with
      | some n => some ⟨.dat (.i n), [], pkl g l, True⟩
      | none => none
    | _ => none

theorem run_minL {P : Program} {w : World} {ok : Nat → Prop} {ι : Nat → Option (Nat × Nat)} (hg : g = true) : ∀ (l : List AV) (vs : List Value) (m n : Int), vs.length = l.length → (∀ (k : Nat) (x : AV) (v : Value), l[k]? = some x → vs[k]? = some v → RepA ok ι w x v) →
    pkl g l → minL m l = some n → (vs.foldlM Builtin.min2 (.int .i64 m)).run P w = .ok (.int .i64 n) w
  | [], [], m, n, _, _, _, h => by simp [minL] at h; subst h; simp
  | [], _ :: _, m, n, hl, _, _, h => by simp at hl
  | _ :: _, [], m, n, hl, _, _, h => by simp at hl
  | x :: l, v :: vs, m, n, hl, hr, hp, h => by
    simp only [minL] at h
    simp only [pkl] at hp
    split at h
    · rename_i k hk
      have ev := isI_rep (sp_rep hg hp.1 (hr 0 x v rfl rfl)) hk
      subst ev
      have ih := run_minL (P := P) hg l vs (min m k) n (by simpa using hl) (fun j x v h1 h2 => hr (j + 1) x v (by simpa using h1) (by simpa using h2)) hp.2 h
      have e : (if k < m then k else m) = min m k := by omega
      simp only [List.foldlM_cons, Builtin.min2, Sem.run_bind, Sem.run_pure, Result.andThen_ok, e, ih]
    · cases h

theorem run_maxL {P : Program} {w : World} {ok : Nat → Prop} {ι : Nat → Option (Nat × Nat)} (hg : g = true) : ∀ (l : List AV) (vs : List Value) (m n : Int), vs.length = l.length → (∀ (k : Nat) (x : AV) (v : Value), l[k]? = some x → vs[k]? = some v → RepA ok ι w x v) →
    pkl g l → maxL m l = some n → (vs.foldlM Builtin.max2 (.int .i64 m)).run P w = .ok (.int .i64 n) w
  | [], [], m, n, _, _, _, h => by simp [maxL] at h; subst h; simp
  | [], _ :: _, m, n, hl, _, _, h => by simp at hl
  | _ :: _, [], m, n, hl, _, _, h => by simp at hl
  | x :: l, v :: vs, m, n, hl, hr, hp, h => by
    simp only [maxL] at h
    simp only [pkl] at hp
    split at h
    · rename_i k hk
      have ev := isI_rep (sp_rep hg hp.1 (hr 0 x v rfl rfl)) hk
      subst ev
      have ih := run_maxL (P := P) hg l vs (max m k) n (by simpa using hl) (fun j x v h1 h2 => hr (j + 1) x v (by simpa using h1) (by simpa using h2)) hp.2 h
      have e : (if k > m then k else m) = max m k := by omega
      simp only [List.foldlM_cons, Builtin.max2, Sem.run_bind, Sem.run_pure, Result.andThen_ok, e, ih]
    · cases h

theorem opnds_rep {ι : Nat → Option (Nat × Nat)} {a : Act} {w : World} (S : SimI C σ ι a w) (args : List Operand) :
    ∀ (k : Nat) (x : AV) (v : Value), (args.map (opnd σ.e))[k]? = some x → (args.map a.eval)[k]? = some v → RepA (okOf C.F σ.h ι w) ι w x v := by
  intro k x v h1 h2
  simp only [List.getElem?_map, Option.map_eq_some_iff] at h1 h2
  obtain ⟨p, hp, rfl⟩ := h1
  obtain ⟨q, hq, rfl⟩ := h2
  rw [hp] at hq; simp at hq; subst hq
  exact S.opnd p

theorem snd_min {args : Array Operand} {ts : Array TypeId} {out : Out} (ho : o.op = .call ⟨.builtin .min, args, ts⟩) (h : vMin g (args.toList.map (opnd σ.e)) = some out) : Snd C o g σ out := by
  unfold vMin at h
  split at h
  · cases h
  · rename_i x r hl
    split at h
    · rename_i m hm
      split at h
      · rename_i n hn
        simp only [Option.some.injEq] at h; subst h
        refine Snd.pure fun ι a w S hg hs => ?_
        refine ⟨.int .i64 n, ?_, trivial, by simp [RepA, RepD]⟩
        have hreps := opnds_rep S args.toList
        rw [hl] at hreps
        obtain ⟨cs, hcs⟩ := run_call_builtin (P := C.P) (w := w) (ρ := a.eval) ho
        rw [hcs]
        cases hv : args.toList.map a.eval with
        | nil => have h0 : args.toList = [] := by simpa using hv
                 simp [h0] at hl
        | cons v vs =>
          rw [hv] at hreps
          have hs' : pk g x ∧ pkl g r := by rw [hl] at hs; exact hs
          have ev := isI_rep (sp_rep hg hs'.1 (hreps 0 x v rfl rfl)) hm
          have hlen : vs.length = r.length := by have := congrArg List.length hl; have h2 := congrArg List.length hv; simp at this h2; omega
          have hr := run_minL (P := C.P) (w := w) hg r vs m n hlen (fun j x v h1 h2 => hreps (j + 1) x v (by simpa using h1) (by simpa using h2)) hs'.2 hn
          subst ev
          simp only [builtin, Builtin.min_, Array.toList_map, hv, Sem.run_bind, hr, Result.andThen_ok, Sem.run_pure]
      · cases h
    · cases h

theorem snd_max {args : Array Operand} {ts : Array TypeId} {out : Out} (ho : o.op = .call ⟨.builtin .max, args, ts⟩) (h : vMax g (args.toList.map (opnd σ.e)) = some out) : Snd C o g σ out := by
  unfold vMax at h
  split at h
  · cases h
  · rename_i x r hl
    split at h
    · rename_i m hm
      split at h
      · rename_i n hn
        simp only [Option.some.injEq] at h; subst h
        refine Snd.pure fun ι a w S hg hs => ?_
        refine ⟨.int .i64 n, ?_, trivial, by simp [RepA, RepD]⟩
        have hreps := opnds_rep S args.toList
        rw [hl] at hreps
        obtain ⟨cs, hcs⟩ := run_call_builtin (P := C.P) (w := w) (ρ := a.eval) ho
        rw [hcs]
        cases hv : args.toList.map a.eval with
        | nil => have h0 : args.toList = [] := by simpa using hv
                 simp [h0] at hl
        | cons v vs =>
          rw [hv] at hreps
          have hs' : pk g x ∧ pkl g r := by rw [hl] at hs; exact hs
          have ev := isI_rep (sp_rep hg hs'.1 (hreps 0 x v rfl rfl)) hm
          have hlen : vs.length = r.length := by have := congrArg List.length hl; have h2 := congrArg List.length hv; simp at this h2; omega
          have hr := run_maxL (P := C.P) (w := w) hg r vs m n hlen (fun j x v h1 h2 => hreps (j + 1) x v (by simpa using h1) (by simpa using h2)) hs'.2 hn
          subst ev
          simp only [builtin, Builtin.max_, Array.toList_map, hv, Sem.run_bind, hr, Result.andThen_ok, Sem.run_pure]
      · cases h
    · cases h

theorem snd_slice {T : Nat} {x : Operand} {lo hi : Option Operand} {out : Out} (ho : o.op = .slice T x lo hi none) (h : vSlice C.P T g (opnd σ.e x) (lo.map (opnd σ.e)) (hi.map (opnd σ.e)) = some out) : Snd C o g σ out := by
  unfold vSlice at h
  split at h
  · rename_i e l he hlo
    have hu := elOf_some he
    have hel : C.P.elem T = e := by simp [Program.elem, hu]
    have bnd : ∀ {ι : Nat → Option (Nat × Nat)} {a : Act} {w : World} (S : SimI C σ ι a w) (hg : g = true) (q : Option Operand) (m : Nat) (i : Int), hiOf m (q.map (opnd σ.e)) = some i → opk g (q.map (opnd σ.e)) →
        (q = none ∧ i = m) ∨ ∃ k, q.map a.eval = some (.int k i) := by
      intro ι a w S hg q m i hq hp
      cases q with
      | none => simp [hiOf] at hq; exact .inl ⟨rfl, hq.symm⟩
      | some p =>
        simp only [Option.map_some, hiOf, Option.map_eq_some_iff] at hq
        obtain ⟨⟨k, n⟩, hk, rfl⟩ := hq
        exact .inr ⟨k, by simp only [Option.map_some]; rw [isI_rep (S.sopnd hg p hp) hk]⟩
    have key : ∀ {ι : Nat → Option (Nat × Nat)} {a : Act} {w : World} (S : SimI C σ ι a w) (hg : g = true) (b : Option Addr) (len cap n : Nat) (j : Int), a.eval x = .slice b len cap → (szOf C.P e == n && (C.P.info? e).isSome) = true → hiOf len (hi.map (opnd σ.e)) = some j →
        opk g (lo.map (opnd σ.e)) → opk g (hi.map (opnd σ.e)) → 0 ≤ l → l ≤ j → j ≤ cap →
        (execOp a.eval o).run C.P w = .ok (.value (.slice (if cap = l.toNat then b else b.map (·.add (l.toNat * n))) (j.toNat - l.toNat) (cap - l.toNat))) w := by
      intro ι a w S hg b len cap n j hx hz hj p1 p2 h0 h1 h2
      have hs := run_sizeOf (w := w) hz
      have hlo' := bnd S hg lo 0 l hlo p1
      have hhi' := bnd S hg hi len j hj p2
      have hb : (Instr.sliceBounds true len cap (lo.map a.eval) (hi.map a.eval) none).run C.P w = .ok (l.toNat, j.toNat, cap) w := by
        have r1 : ∀ k, (Instr.sliceBound (.int k j) cap .sliceAcap).run C.P w = .ok j.toNat w := fun k => run_sliceBound (P := C.P) w k j cap .sliceAcap (by omega) h2
        have r2 : ∀ k, (Instr.sliceBound (.int k l) j.toNat .sliceB).run C.P w = .ok l.toNat w := fun k => run_sliceBound (P := C.P) w k l j.toNat .sliceB h0 (by omega)
        rcases hhi' with ⟨rfl, rfl⟩ | ⟨k, hk⟩ <;> rcases hlo' with ⟨rfl, rfl⟩ | ⟨k', hk'⟩
        · simp [Instr.sliceBounds]
        · have r3 := r2 k'
          simp only [Int.toNat_natCast] at r3
          simp [Instr.sliceBounds, hk', r3]
        · simp [Instr.sliceBounds, hk, r1]
        · simp [Instr.sliceBounds, hk, hk', r1, r2]
      have hsl : (Instr.sliceAt T (.slice b len cap) (lo.map a.eval) (hi.map a.eval) none).run C.P w = .ok (.slice (if cap = l.toNat then b else b.map (·.add (l.toNat * n))) (j.toNat - l.toNat) (cap - l.toNat)) w := by
        rw [run_sliceAt_slice (P := C.P) w T _ _ _ _ (by rw [hel]; exact hu)]
        simp only [Instr.slice, Sem.run_bind, run_underlying hu, Result.andThen_ok, hb, hs, Sem.run_pure]
      simp only [execOp, ho, hx, Option.map_none, Sem.run_bind, hsl, Result.andThen_ok, Sem.run_pure]
    split at h
    · rename_i nm oo m n hx
      split at h
      · rename_i j hj
        cases hz : (szOf C.P e == n && (C.P.info? e).isSome)
        · simp [hz] at h
        · simp only [hz, cond_true, Option.some.injEq] at h; subst h
          refine Snd.pure fun ι a w S hg hs => ?_
          obtain ⟨p0, p1, p2, s0, s1, s2, s3⟩ := hs
          have ex := S.sopnd hg x p0
          rw [hx] at ex
          simp only [RepA] at ex
          rcases ex with ⟨hi0, ex, rfl, rfl⟩ | ⟨b, c, hi0, ex, hle⟩
          · have hl0 : l = 0 := by omega
            have hj0 : j = 0 := by omega
            subst hl0; subst hj0
            refine ⟨_, key S hg none 0 0 n 0 ex hz hj p1 p2 (by omega) (by omega) (by omega), trivial, ?_⟩
            simp [RepA, hi0]
          · refine ⟨_, key S hg (some ⟨b, oo * n, none⟩) m (c - oo) n j ex hz hj p1 p2 s0 s1 (by omega), trivial, ?_⟩
            simp only [RepA]
            refine .inr ⟨b, c, hi0, ?_, by omega⟩
            by_cases hc : c - oo = l.toNat
            · have hl0 : l.toNat = 0 := by omega
              simp [hc, hl0]
            · simp only [hc, if_false, Option.map_some, addr_add, Nat.add_mul]
              congr 1
              omega
      · cases h
    · rename_i n ls hx
      split at h
      · rename_i j hj
        cases hz : (szOf C.P e == n && (C.P.info? e).isSome)
        · simp [hz] at h
        · simp only [hz, cond_true, Option.some.injEq] at h; subst h
          refine Snd.pure fun ι a w S hg hs => ?_
          obtain ⟨p0, p1, p2, s0, s1, s2⟩ := hs
          have ex := S.sopnd hg x p0
          rw [hx] at ex
          simp only [RepA, RepD] at ex
          obtain ⟨hml, ex⟩ := ex
          rcases ex with ⟨rfl, b, cap, ex⟩ | ⟨b, oo, cap, vs, ex, hcap, hb, hrs, hc⟩
          · simp only [List.length_nil] at *
            have hl0 : l = 0 := by omega
            have hj0 : j = 0 := by omega
            subst hl0; subst hj0
            refine ⟨_, key S hg b 0 cap n 0 ex hz hj p1 p2 (by omega) (by omega) (by omega), trivial, ?_⟩
            simp only [RepA, RepD]
            exact ⟨by simp, .inl ⟨by simp, _, _, rfl⟩⟩
          · refine ⟨_, key S hg (some ⟨b, oo, none⟩) ls.length cap n j ex hz hj p1 p2 s0 s1 (by omega), trivial, ?_⟩
            simp only [RepA, RepD]
            have hlen : ((ls.take j.toNat).drop l.toNat).length = j.toNat - l.toNat := by simp; omega
            refine ⟨by omega, ?_⟩
            by_cases hz0 : j.toNat - l.toNat = 0
            · exact .inl ⟨List.eq_nil_of_length_eq_zero (by omega), by rw [hz0]; exact ⟨_, _, rfl⟩⟩
            · have hne : ¬ cap = l.toNat := by omega
              refine .inr ⟨b, oo + l.toNat * n, cap - l.toNat, (vs.take (j.toNat * n)).drop (l.toNat * n), ?_, by omega, hb, RepDss_drop _ (RepDss_take _ hrs), cellsAt_drop (cellsAt_take hc)⟩
              simp [hne, hlen, addr_add]
      · cases h
    · cases h
  · cases h

end
end Go.Eng

namespace Go.Eng
open Go.RowKit

def srcOf (n : Nat) (g : Bool) (h : Hp) (x : AV) : Option (List (List D) × Prop) :=
  match sp x with
  | .dat (.sl n' l) => bif n' == n then some (l, pk g x) else none
  | .vw nm o m n' => match geth h nm with
    | some (g', .arr _ n'' l) => bif n' == n && n'' == n then some ((l.drop o).take m, pk g x ∧ (g = true → g' = true) ∧ o + m ≤ l.length) else none
    | _ => none
  | .dat (.v (.slice _ 0 _)) => some ([], pk g x)
  | _ => none

def dstOf (T n : Nat) (g : Bool) (h : Hp) (x : AV) : Option (Option Nat × List (List D) × Prop) :=
  match sp x with
  | .vw nm o m n' => match geth h nm with
    | some (g', .arr T' n'' l) => bif T' == T && n' == n && n'' == n && o == 0 then some (some nm, l, pk g x ∧ g' = true ∧ m = l.length) else none
    | _ => none
  | .dat (.v (.slice none 0 0)) => some (none, [], pk g x)
  | _ => none

def vApp (P : Program) (d T : Nat) (g : Bool) (σ : St) (x y : AV) : Option Out :=
  match elOf P T with
  | none => none
  | some e => match zC P e with
    | none => none
    | some z => bif z.length == szOf P e && decide (0 < (szOf P e)) && decide (0 < (byOf P e)) && fresh d σ then
        match dstOf e (szOf P e) g σ.h x, srcOf (szOf P e) g σ.h y with
        | some (nm, l, s1), some (l', s2) =>
          some ⟨.vw d 0 (l.length + l'.length) (szOf P e), (d, some (true, .arr e (szOf P e) (l ++ l'))) :: (match nm with | some k => [(k, none)] | none => []), s1 ∧ s2 ∧ (l.length + l'.length) * byOf P e ≤ 140737488355328, True⟩
        | _, _ => none
      else none

section
variable {C : Ctx} {σ : St} {o : Oper} {g : Bool}

theorem src_rep {ι : Nat → Option (Nat × Nat)} {a : Act} {w : World} (S : SimI C σ ι a w) (hg : g = true) {n : Nat} {y : Operand} {l : List (List D)} {s : Prop} (h : srcOf n g σ.h (opnd σ.e y) = some (l, s)) (hs : s) :
    ∃ va c news, a.eval y = .slice va l.length c ∧ RepDss (okOf C.F σ.h ι w) w n l news ∧ (va = none → l = []) ∧ ∀ p, va = some p → ∀ j u, news[j]? = some u → w.cell? (p.add j) = some u := by
  unfold srcOf at h
  split at h
  · rename_i n' l' hy
    cases hn : n' == n
    · simp [hn] at h
    · simp only [hn, cond_true, Option.some.injEq, Prod.mk.injEq] at h
      obtain ⟨rfl, rfl⟩ := h
      simp only [beq_iff_eq] at hn; subst hn
      have ey := S.sopnd hg y hs
      rw [hy] at ey
      simp only [RepA, RepD] at ey
      obtain ⟨_, ey⟩ := ey
      rcases ey with ⟨rfl, b, cap, ey⟩ | ⟨b, oo, cap, vs, ey, hcap, hb, hrs, hc⟩
      · exact ⟨b, cap, [], ey, by simp [RepDss], fun _ => rfl, fun p _ j u hu => by simp at hu⟩
      · refine ⟨_, _, vs, ey, hrs, fun h => by simp at h, fun p hp j u hu => ?_⟩
        simp only [Option.some.injEq] at hp; subst hp
        rw [addr_add]; exact hc j u hu
  · rename_i nm oo m n' hy
    split at h
    · rename_i g' T' n'' l' hh
      cases hn : (n' == n && n'' == n)
      · simp [hn] at h
      · simp only [hn, cond_true, Option.some.injEq, Prod.mk.injEq] at h
        obtain ⟨rfl, rfl⟩ := h
        simp only [Bool.and_eq_true, beq_iff_eq] at hn
        obtain ⟨rfl, hn⟩ := hn
        subst hn
        obtain ⟨p1, p2, p3⟩ := hs
        have hlen : ((l'.drop oo).take m).length = m := by simp; omega
        have ey := S.sopnd hg y p1
        rw [hy] at ey
        simp only [RepA] at ey
        have hgg := p2 hg
        subst hgg
        rcases ey with ⟨_, ey, rfl, rfl⟩ | ⟨b, c, hi, ey, hle⟩
        · exact ⟨none, 0, [], by simpa using ey, by simp [RepDss], fun _ => by simp, fun p hp => by simp at hp⟩
        · rcases S.ent nm _ hh with ⟨h1, _⟩ | ⟨b', cap, cur, h1, h2, h3, h4, h5, h6, h7⟩
          · rw [hi] at h1; cases h1
          · rw [hi] at h1; simp only [Option.some.injEq, Prod.mk.injEq] at h1
            obtain ⟨rfl, rfl⟩ := h1
            refine ⟨_, _, _, by rw [hlen]; exact ey, RepDss_take m (RepDss_drop oo h7), fun h => by simp at h, fun p hp j u hu => ?_⟩
            simp only [Option.some.injEq] at hp; subst hp
            have hc := cellsAt_take (k := m * n'') (cellsAt_drop (k := oo * n'') (cellsAt_take (k := l'.length * n'') (cellsAt_block (o := 0) h3)))
            simp only [List.drop_zero, Nat.zero_add] at hc
            rw [addr_add]
            exact hc j u hu
    · cases h
  · rename_i hy
    simp only [Option.some.injEq, Prod.mk.injEq] at h
    obtain ⟨rfl, rfl⟩ := h
    have ey := S.sopnd hg y hs
    rw [hy] at ey
    simp only [RepA, RepD] at ey
    exact ⟨_, _, [], ey, by simp [RepDss], fun _ => rfl, fun p hp j u hu => by simp at hu⟩
  · cases h

theorem fresh_drop {d k : Nat} (hf : fresh d σ = true) : fresh d ⟨σ.e, (k, none) :: σ.h⟩ = true := by
  simp only [fresh, Bool.and_eq_true, List.all_cons] at hf ⊢
  exact ⟨hf.1, trivial, hf.2⟩
theorem fresh_arr {d k T n : Nat} {l : List (List D)} (hf : fresh d σ = true) : fresh d ⟨σ.e, (k, some (true, .arr T n l)) :: σ.h⟩ = true := by
  simp only [fresh, Bool.and_eq_true, List.all_cons] at hf ⊢
  exact ⟨hf.1, rfl, hf.2⟩

theorem run_append_nothing {P : Program} {w : World} {T ty e : Nat} (va : Option Addr) (c : Nat) (hu : P.underlying T = some (.slice e)) (hi : ∃ i, P.info? e = some i) (s : Option Addr) (sl sc : Nat) (hle : sl ≤ sc) :
    (Builtin.append_ #[T, T] ty #[.slice s sl sc, .slice va 0 c]).run P w = .ok (.slice s sl sc) w := by
  obtain ⟨i, hi⟩ := hi
  cases va <;> cases s <;> simp [Builtin.append_, run_underlying hu, sizeOf, typeInfo, hi, Builtin.lenOf, Builtin.firstCells, hle, loadCells, loadCellsFrom, storeCells]

theorem okOf_drop {ι : Nat → Option (Nat × Nat)} {w : World} {h : Hp} {k : Nat} : ∀ b, okOf C.F h ι w b → okOf C.F ((k, none) :: h) ι w b := by
  intro b hb
  refine ⟨hb.1, fun j y c hy => hb.2.1 j y c ?_, hb.2.2⟩
  simp only [geth] at hy
  cases hk : k == j
  · rw [hk] at hy; exact hy
  · rw [hk] at hy; simp at hy

theorem app_nil {ι : Nat → Option (Nat × Nat)} {a : Act} {w : World} {T ty e d : Nat} {z : List D} {y : Value} {va : Option Addr} {vc : Nat} {news : List Value} {l' : List (List D)}
    (S : SimI C σ ι a w) (hf : fresh d σ = true) (hu : C.P.underlying T = some (.slice e)) (hz : zC C.P e = some z) (hzl : z.length = szOf C.P e) (ey : y = .slice va l'.length vc)
    (hnews : RepDss (okOf C.F σ.h ι w) w (szOf C.P e) l' news) (hva : va = none → l' = []) (hcell : ∀ p, va = some p → ∀ j u, news[j]? = some u → w.cell? (p.add j) = some u) (htot : l'.length ≤ 140737488355328) (hb : l'.length * byOf C.P e ≤ 140737488355328) :
    ∃ v w' ι', (Builtin.append_ #[T, T] ty #[.slice none 0 0, y]).run C.P w = .ok v w' ∧ SimI C ⟨σ.e, (d, some (true, .arr e (szOf C.P e) l')) :: σ.h⟩ ι' a w' ∧
      RepA (okOf C.F ((d, some (true, .arr e (szOf C.P e) l')) :: σ.h) ι' w') ι' w' (.vw d 0 l'.length (szOf C.P e)) v := by
  obtain ⟨i, u, hi1, hi2, hi3⟩ := zC_rep (ok := okOf C.F σ.h ι w) (w := w) hz
  have his : i.size = szOf C.P e := by simp [szOf, hi1]
  have hib : i.bytes = byOf C.P e := by simp [byOf, hi1]
  have hnl := RepDss_length hnews
  subst ey
  by_cases hl' : l' = []
  · subst hl'
    have hr := run_append_nothing (P := C.P) (w := w) (ty := ty) va vc hu ⟨i, hi1⟩ none 0 0 (by omega)
    have S2 := S.new (w' := w) (p := none) (x := .arr e (szOf C.P e) []) rfl rfl rfl (by omega) (fun _ _ => rfl) hf (fun b c h => by cases h) (fun _ _ => .inl ⟨by simp, rfl⟩)
    exact ⟨_, _, _, hr, S2, by simp [RepA]⟩
  · obtain ⟨p, rfl⟩ : ∃ p, va = some p := by
      cases va with
      | none => exact absurd (hva rfl) hl'
      | some p => exact ⟨p, rfl⟩
    have h0 : 0 < l'.length := by cases l' with | nil => exact absurd rfl hl' | cons => simp
    have hr := run_append_nil (P := C.P) w T ty e i u hu hi1 hi2 p l'.length vc news (by rw [hnl, his]) (hcell p rfl) h0 (by omega) (by rw [hib]; omega)
    have hge := grownCap_ge w l'.length 0 e
    have hml := grownCap_le_maxLen w l'.length 0 e (by simp [maxLen]; omega)
    have hus : u.cells.size = szOf C.P e := by have := RepDs_length hi3; simp at this; omega
    obtain ⟨ι', S', hd'⟩ := S.newArr (T := e) (n := szOf C.P e) (l := l') (cap := grownCap w l'.length 0 e) (cur := news.toArray ++ Builtin.zeroCells u.cells (grownCap w l'.length 0 e - l'.length)) (w' := w.drew.alloc (.cells (news.toArray ++ Builtin.zeroCells u.cells (grownCap w l'.length 0 e - l'.length)) e)) hf rfl rfl rfl rfl
      (by simp only [Array.toList_append]; rw [← hnl, List.take_append_of_le_length (by simp), List.take_of_length_le (by simp)]; exact hnews) (by simp only [Array.size_append, List.size_toArray, size_zeroCells, hus, hnl, ← Nat.add_mul]; congr 1; omega) hge ⟨hml, by omega⟩
    refine ⟨_, _, ι', hr, S', ?_⟩
    simp only [RepA]
    exact .inr ⟨_, _, hd', by simp, by omega⟩

theorem snd_app {T d : Nat} {x y : Operand} {out : Out} (ho : o.op = .call ⟨.builtin .append, #[x, y], #[T, T]⟩) (h : vApp C.P d T g σ (opnd σ.e x) (opnd σ.e y) = some out) : Snd C o g σ out := by
  unfold vApp at h
  split at h
  · cases h
  · rename_i e he
    have hu := elOf_some he
    split at h
    · cases h
    · rename_i z hz
      cases hcnd : (z.length == szOf C.P e && decide (0 < (szOf C.P e)) && decide (0 < (byOf C.P e)) && fresh d σ)
      · simp [hcnd] at h
      · simp only [hcnd, cond_true] at h
        simp only [Bool.and_eq_true, decide_eq_true_eq, beq_iff_eq] at hcnd
        obtain ⟨⟨⟨c1, c2⟩, c3⟩, hf⟩ := hcnd
        split at h
        · rename_i nm l s1 l' s2 hd hsrc
          simp only [Option.some.injEq] at h; subst h
          intro ι a w S hg hs
          obtain ⟨q1, q2, q3⟩ := hs
          obtain ⟨i, u, hi1, hi2, hi3⟩ := zC_rep (ok := okOf C.F σ.h ι w) (w := w) hz
          have his : i.size = szOf C.P e := by simp [szOf, hi1]
          have hib : i.bytes = byOf C.P e := by simp [byOf, hi1]
          obtain ⟨va, vc, news, ey, hnews, hva, hcell⟩ := src_rep S hg hsrc q2
          have hnl := RepDss_length hnews
          have hn1 := RepDss_one hnews
          have htot : l.length + l'.length ≤ 140737488355328 := by
            have : (l.length + l'.length) * 1 ≤ (l.length + l'.length) * byOf C.P e := Nat.mul_le_mul_left _ c3
            omega
          obtain ⟨cs, hcs⟩ := run_call_builtin (P := C.P) (w := w) (ρ := a.eval) ho
          have hrun : ∀ {v w'}, (Builtin.append_ #[T, T] o.type #[a.eval x, a.eval y]).run C.P w = .ok v w' → (execOp a.eval o).run C.P w = .ok (.value v) w' := by
            intro v w' hr
            rw [hcs]
            simp only [builtin, List.map_toArray, List.map_cons, List.map_nil, Sem.run_bind, hr, Result.andThen_ok, Sem.run_pure]
          unfold dstOf at hd
          split at hd
          · rename_i nm' oo m n' hx
            split at hd
            · rename_i g' T' n'' l0 hh
              cases hc : (T' == e && n' == szOf C.P e && n'' == szOf C.P e && oo == 0)
              · simp [hc] at hd
              · simp only [hc, cond_true, Option.some.injEq, Prod.mk.injEq] at hd
                obtain ⟨rfl, rfl, rfl⟩ := hd
                simp only [Bool.and_eq_true, beq_iff_eq] at hc
                obtain ⟨⟨⟨rfl, rfl⟩, rfl⟩, rfl⟩ := hc
                obtain ⟨p1, rfl, rfl⟩ := q1
                have ex := S.sopnd hg x p1
                rw [hx] at ex
                simp only [RepA] at ex
                rcases ex with ⟨hi0, ex, _, hl0⟩ | ⟨b, c, hi0, ex, hle⟩
                · have hl00 : l0 = [] := List.eq_nil_of_length_eq_zero hl0
                  subst hl00
                  obtain ⟨v, w', ι', h1, h2, h3⟩ := app_nil (ty := o.type) (S.drop nm') (fresh_drop hf) hu hz c1 ey (RepDss.tr okOf_drop (fun _ _ => rfl) _ _ _ hnews) hva hcell (by simpa using htot) (by simpa using q3)
                  rw [ex] at hrun
                  exact ⟨_, w', v, hrun h1, .inl rfl, trivial, ι', h2, by simpa using h3⟩
                · rcases S.ent nm' _ hh with ⟨h1, _⟩ | ⟨b', cap, cur, h1, h2, h3, h4, h5, h6, h7⟩
                  · rw [hi0] at h1; cases h1
                  · rw [hi0] at h1; simp only [Option.some.injEq, Prod.mk.injEq] at h1
                    obtain ⟨rfl, rfl⟩ := h1
                    have hol := RepDss_length h7
                    simp only [Nat.zero_mul, Nat.sub_zero] at ex
                    by_cases hroom : l0.length + l'.length ≤ c
                    · -- in place
                      have hfit : l0.length * szOf C.P T' + news.length ≤ cur.size := by
                        rw [hnl, h4, ← Nat.add_mul]; exact Nat.mul_le_mul_right _ hroom
                      have hr : (Builtin.append_ #[T, T] o.type #[.slice (some ⟨b, 0, none⟩) l0.length c, a.eval y]).run C.P w = .ok (.slice (some ⟨b, 0, none⟩) (l0.length + l'.length) c) (w.setRow b (cur.toList.take (l0.length * szOf C.P T') ++ news ++ cur.toList.drop (l0.length * szOf C.P T' + news.length)).toArray) := by
                        cases va with
                        | none =>
                          have := hva rfl
                          subst this
                          simp only [RepDss] at hnews
                          subst hnews
                          rw [ey, List.length_nil, run_append_nothing (P := C.P) (w := w) none vc hu ⟨i, hi1⟩ _ _ _ h5]
                          simp only [List.append_nil, List.length_nil, Nat.add_zero, List.take_append_drop, Array.toArray_toList]
                          rw [setRow_self w b cur T' (0, 0) h3]
                        | some p =>
                          rw [ey]
                          have := run_append_room (P := C.P) w T o.type T' i hu hi1 b l0.length c cur h3 p l'.length vc news (by rw [hnl, his]) (hcell p rfl) hn1 hroom (by rw [his]; exact hfit)
                          rw [his] at this
                          exact this
                      rw [ex] at hrun
                      have S1 := S.write (x' := .arr T' (szOf C.P T') (l0 ++ l')) (w' := w.setRow b (cur.toList.take (l0.length * szOf C.P T') ++ news ++ cur.toList.drop (l0.length * szOf C.P T' + news.length)).toArray) hh hi0 (setRow_heap w b cur _ T' (0, 0) h3) rfl rfl rfl (by simp) (fun k hk => setRow_other w b k _ hk) (fun hok hw => by
                        refine .inr ⟨b, c, _, hi0, h2, setRow_heap w b cur _ T' (0, 0) h3, ?_, by simpa using hroom, ⟨h6.1, by simp; omega⟩, ?_⟩
                        · simp; omega
                        · have := RepDss_append (RepDss.tr hok hw _ _ _ h7) (RepDss.tr hok hw _ _ _ hnews)
                          refine cast (congrArg _ ?_) this
                          have hlen : (l0 ++ l').length * szOf C.P T' = (cur.toList.take (l0.length * szOf C.P T') ++ news).length := by rw [List.length_append, List.length_append, hol, hnl, Nat.add_mul]
                          rw [hlen]
                          show _ = List.take _ (_ ++ _ ++ _)
                          rw [List.take_append_of_le_length (Nat.le_refl _), List.take_length])
                      have S2 := S1.rename (nm := nm') (d := d) (x := .arr T' (szOf C.P T') (l0 ++ l')) (by simp [geth]) (fresh_arr hf) rfl
                      have S3 := S2.hcongr (h' := (d, some (true, .arr T' (szOf C.P T') (l0 ++ l'))) :: (nm', none) :: σ.h) (fun k => by
                        simp only [geth]
                        cases d == k <;> cases hk : nm' == k <;> simp)
                      refine ⟨_, _, _, hrun hr, .inl rfl, trivial, _, S3, ?_⟩
                      simp only [RepA]
                      exact .inr ⟨b, c, by simp [hi0], by simp, by omega⟩
                    · -- a new array
                      obtain ⟨p, rfl⟩ : ∃ p, va = some p := by
                        cases va with
                        | none => have := hva rfl; subst this; simp at hroom; omega
                        | some p => exact ⟨p, rfl⟩
                      have hold : ∀ (j : Nat) (u : Value), (cur.toList.take (l0.length * szOf C.P T'))[j]? = some u → w.cell? ((⟨b, 0, none⟩ : Addr).add j) = some u := by
                        intro j u hj
                        have hc := cellsAt_take (k := l0.length * szOf C.P T') (cellsAt_block (o := 0) h3)
                        simp only [List.drop_zero] at hc
                        rw [addr_add]; exact hc j u hj
                      have hr := run_append_grow (P := C.P) w T o.type T' i u hu hi1 hi2 ⟨b, 0, none⟩ l0.length c (cur.toList.take (l0.length * szOf C.P T')) (by rw [his]; exact hol) hold p l'.length vc news (by rw [hnl, his]) (hcell p rfl) (by omega) (by omega) (growslice_fits (by omega) (by rw [hib]; exact q3))
                      have hge := grownCap_ge w (l0.length + l'.length) c T'
                      have hml := grownCap_le_maxLen w (l0.length + l'.length) c T' (by simp [maxLen]; omega)
                      have hus : u.cells.size = szOf C.P T' := by have := RepDs_length hi3; simp at this; omega
                      rw [ex, ey] at hrun
                      obtain ⟨ι', S', hd'⟩ := (S.drop nm').newArr (d := d) (T := T') (n := szOf C.P T') (l := l0 ++ l') (cap := grownCap w (l0.length + l'.length) c T') (cur := (cur.toList.take (l0.length * szOf C.P T')).toArray ++ news.toArray ++ Builtin.zeroCells u.cells (grownCap w (l0.length + l'.length) c T' - (l0.length + l'.length)))
                        (w' := w.drew.alloc (.cells ((cur.toList.take (l0.length * szOf C.P T')).toArray ++ news.toArray ++ Builtin.zeroCells u.cells (grownCap w (l0.length + l'.length) c T' - (l0.length + l'.length))) T')) (fresh_drop hf) rfl rfl rfl rfl
                        (by
                          have h8 := RepDss.tr (ok' := okOf C.F ((nm', none) :: σ.h) ι w) (w' := w) okOf_drop (fun _ _ => rfl) _ _ _ (RepDss_append h7 hnews)
                          have hl8 := RepDss_length h8
                          simp only [Array.toList_append]
                          rw [← hl8, List.take_append_of_le_length (by simp), List.take_of_length_le (by simp)]
                          exact h8)
                        (by simp only [Array.size_append, List.size_toArray, size_zeroCells, hus, hnl, hol, ← Nat.add_mul]; congr 1; omega) (by simpa using hge) ⟨hml, by simp; omega⟩
                      refine ⟨_, _, _, hrun hr, .inl rfl, trivial, ι', S', ?_⟩
                      simp only [RepA]
                      exact .inr ⟨_, _, hd', by simp, by omega⟩
            · cases hd
          · rename_i hx
            simp only [Option.some.injEq, Prod.mk.injEq] at hd
            obtain ⟨rfl, rfl, rfl⟩ := hd
            have ex := S.sopnd hg x q1
            rw [hx] at ex
            simp only [RepA, RepD] at ex
            obtain ⟨v, w', ι', h1, h2, h3⟩ := app_nil (ty := o.type) S hf hu hz c1 ey hnews hva hcell (by simpa using htot) (by simpa using q3)
            rw [ex] at hrun
            exact ⟨_, w', v, hrun h1, .inl rfl, trivial, ι', h2, by simpa using h3⟩
          · cases hd
        · cases h
end
end Go.Eng

namespace Go.Eng
open Go.RowKit


inductive RV where
  | dat (d : D)
  | own (T n : Nat) (l : List (List D))
  | agg (l : List RV)
  | tup (l : List RV)

section
variable (ok : Nat → Prop) (w : World)
mutual
def RepR : RV → Value → List Nat → Prop
  | .dat d, v, bs => bs = [] ∧ RepD ok w d v
  | .own T n l, v, bs => (bs = [] ∧ l = [] ∧ v = .slice none 0 0) ∨ ∃ b cap cur, bs = [b] ∧ v = .slice (some ⟨b, 0, none⟩) l.length cap ∧ w.heap[b]? = some (.cells cur T (0, 0)) ∧
      cur.size = cap * n ∧ l.length ≤ cap ∧ (cap ≤ maxLen ∧ l.length ≤ 281474976710656) ∧ RepDss ok w n l (cur.toList.take (l.length * n))
  | .agg l, v, bs => ∃ vs : List Value, v = .agg vs.toArray ∧ RepRs true l vs bs
  | .tup l, v, bs => ∃ vs : List Value, v = .tuple vs.toArray ∧ RepRs false l vs bs
def RepRs (one : Bool) : List RV → List Value → List Nat → Prop
  | [], vs, bs => vs = [] ∧ bs = []
  | r :: l, vs, bs => ∃ v vs' b1 b2, vs = v :: vs' ∧ bs = b1 ++ b2 ∧ RepR r v b1 ∧ (one = true → v.oneCell' = true) ∧ RepRs one l vs' b2
end
end

def RepL (ok : Nat → Prop) (w : World) : List D → List Value → Prop
  | [], vs => vs = []
  | d :: l, vs => ∃ v vs', vs = v :: vs' ∧ RepD ok w d v ∧ RepL ok w l vs'

def Fn (P : Program) (f : FuncId) (ds : List D) (r : RV) : Prop :=
  ∀ (w : World) (vs : Array Value) (G : Nat → Prop), RepL (fun b => b < w.heap.size ∧ ¬ G b) w ds vs.toList →
    Calls P f vs w fun e w' => ∃ v bs, e = .returned v ∧ Below w.heap.size w w' ∧ bs.Nodup ∧ (∀ b ∈ bs, w.heap.size ≤ b) ∧ RepR (fun b => (b < w'.heap.size ∧ ¬ (G b ∧ b < w.heap.size)) ∧ b ∉ bs) w' r v bs

mutual
def inst (k : Nat) : RV → AV × Hp × Nat
  | .dat d => (.dat d, [], k)
  | .own T n l => (.vw k 0 l.length n, [(k, some (true, .arr T n l))], k + 1)
  | .agg l => (mkAgg (insts k l).1, (insts k l).2.1, (insts k l).2.2)
  | .tup l => (.tup (insts k l).1, (insts k l).2.1, (insts k l).2.2)
def insts (k : Nat) : List RV → List AV × Hp × Nat
  | [] => ([], [], k)
  | r :: l => ((inst k r).1 :: (insts (inst k r).2.2 l).1, (insts (inst k r).2.2 l).2.1 ++ (inst k r).2.1, (insts (inst k r).2.2 l).2.2)
end

mutual
def still : RV → AV
  | .dat d => .dat d
  | .own _ n l => .dat (.sl n l)
  | .agg l => mkAgg (stills l)
  | .tup l => .tup (stills l)
def stills : List RV → List AV
  | [] => []
  | r :: l => still r :: stills l
end

mutual
def toD (h : Hp) : AV → Option (D × Prop)
  | .dat d => some (d, True)
  | .vw nm o m n => match geth h nm with
    | some (g', .arr _ n' l) => bif n == n' then some (.sl n ((l.drop o).take m), g' = true ∧ o + m ≤ l.length) else none
    | _ => none
  | .agg l => match toDs h l with
    | some (ds, p) => some (.agg ds, p)
    | none => none
  | .rp l => some (.bx l, True)
  | .pt nm o => match geth h nm with
    | some (g', .box _ c) => match allDat (c.drop o) with
      | some ds => some (.bx ds, g' = true)
      | none => none
    | _ => none
  | _ => none
def toDs (h : Hp) : List AV → Option (List D × Prop)
  | [] => some ([], True)
  | a :: l => match toD h a, toDs h l with
    | some (d, p), some (ds, q) => some (d :: ds, p ∧ q)
    | _, _ => none
end

def freshR (σ : St) : Nat → Nat → Bool
  | _, 0 => true
  | k, n + 1 => fresh k σ && freshR σ (k + 1) n

mutual
def D.plain : D → Bool
  | .agg l => D.plainL l
  | .sl .. => false
  | .bx .. => false
  | _ => true
def D.plainL : List D → Bool
  | [] => true
  | d :: l => d.plain && D.plainL l
end
def D.plainLL : List (List D) → Bool
  | [] => true
  | x :: l => D.plainL x && D.plainLL l
mutual
def RV.plain : RV → Prop
  | .dat d => d.plain = true
  | .own _ _ l => D.plainLL l = true
  | .agg l => RV.plainL l
  | .tup l => RV.plainL l
def RV.plainL : List RV → Prop
  | [] => True
  | r :: l => r.plain ∧ RV.plainL l
end

def argsD (g : Bool) (h : Hp) : List AV → Option (List D × Prop)
  | [] => some ([], True)
  | a :: l => match toD h (sp a), argsD g h l with
    | some (d, p), some (ds, q) => some (d :: ds, pk g a ∧ p ∧ q)
    | _, _ => none

def allD : List AV → Bool
  | [] => true
  | a :: l => match sp a with
    | .dat _ => allD l
    | _ => false
def vCallR (P : Program) (fz : Bool) (d : Nat) (f : FuncId) (σ : St) (ds : List D) (p : Prop) (r : RV) (q : Bool) : Option Out :=
  bif fz then some ⟨still r, [], p ∧ (q = true ∨ r.plain) ∧ Fn P f ds r, True⟩
  else bif freshR σ (10000 + 100 * d) ((inst (10000 + 100 * d) r).2.2 - (10000 + 100 * d)) && decide ((inst (10000 + 100 * d) r).2.2 ≤ 10000 + 100 * d + 100) then some ⟨(inst (10000 + 100 * d) r).1, (inst (10000 + 100 * d) r).2.1, p ∧ (q = true ∨ r.plain) ∧ Fn P f ds r, True⟩ else none

def mixOf : RV → Option (List RV)
  | .tup [.tup l] => some l
  | _ => none
def cellM (g : Bool) (as : List AV) : RV → Option (D × Prop)
  | .dat d => some (d, d.plain = true)
  | .agg [.dat (.i k)] => match as[k.toNat]? with
    | some a => match sp a with
      | .dat d => some (d, pk g a)
      | _ => none
    | none => none
  | _ => none
def cellsM (g : Bool) (as : List AV) : List RV → Option (List D × Prop)
  | [] => some ([], True)
  | r :: l => match cellM g as r, cellsM g as l with
    | some (d, p), some (ds, q) => some (d :: ds, p ∧ q)
    | _, _ => none
def MixR (w : World) (vs : List Value) : List RV → List Value → Prop
  | [], us => us = []
  | r :: l, us => ∃ u us', us = u :: us' ∧ u.oneCell' = true ∧ (match r with
    | .dat d => RepD (fun _ => True) w d u
    | .agg [.dat (.i k)] => vs[k.toNat]? = some u
    | _ => False) ∧ MixR w vs l us'
def FnM (P : Program) (f : FuncId) (ds : List D) (l : List RV) : Prop :=
  ∀ (w : World) (vs : Array Value), RepL (· < w.heap.size) w ds vs.toList →
    Calls P f vs w fun e w' => ∃ us : List Value, e = .returned (.agg us.toArray) ∧ Below w.heap.size w w' ∧ MixR w' vs.toList l us
def vCallM (P : Program) (f : FuncId) (g : Bool) (as : List AV) (ds : List D) (p : Prop) (l : List RV) : Option Out :=
  match cellsM g as l with
  | some (cs, q) => some ⟨.dat (.agg cs), [], p ∧ q ∧ FnM P f ds l, True⟩
  | none => none
def vCall (P : Program) (Γ : FuncId → List D → RV) (fz : Bool) (d : Nat) (f : FuncId) (g : Bool) (σ : St) (as : List AV) : Option Out :=
  match argsD g σ.h as with
  | none => none
  | some (ds, p) => match mixOf (Γ f ds) with
    | some l => vCallM P f g as ds p l
    | none => vCallR P fz d f σ ds p (Γ f ds) (allD as)

section
variable {C : Ctx} {σ : St} {o : Oper} {g : Bool} {ι : Nat → Option (Nat × Nat)} {a : Act} {w : World}

mutual
theorem toD_rep (S : SimI C σ ι a w) : ∀ (x : AV) (v : Value) (d : D) (p : Prop), RepA (okOf C.F σ.h ι w) ι w x v → toD σ.h x = some (d, p) → p → RepD (· < w.heap.size) w d v
  | .dat d', v, d, p, h, ht, hp => by
    simp only [toD, Option.some.injEq, Prod.mk.injEq] at ht
    obtain ⟨rfl, _⟩ := ht
    simp only [RepA] at h
    exact RepD.tr (fun b hb => hb.1) (fun _ _ => rfl) _ _ h
  | .vw nm oo m n, v, d, p, h, ht, hp => by
    simp only [toD] at ht
    split at ht
    · rename_i g' T n' l hh
      cases hn : n == n'
      · simp [hn] at ht
      · simp only [hn, cond_true, Option.some.injEq, Prod.mk.injEq] at ht
        simp only [beq_iff_eq] at hn; subst hn
        obtain ⟨rfl, rfl⟩ := ht
        obtain ⟨rfl, hle⟩ := hp
        simp only [RepA] at h
        have hlen : ((l.drop oo).take m).length = m := by simp; omega
        simp only [RepD]
        rcases h with ⟨hi, rfl, rfl, rfl⟩ | ⟨b, c, hi, rfl, hoc⟩
        · exact ⟨by simp, .inl ⟨by simp, _, _, rfl⟩⟩
        · rcases S.ent nm _ hh with ⟨h1, _⟩ | ⟨b', cap, cur, h1, h2, h3, h4, h5, h6, h7⟩
          · rw [hi] at h1; cases h1
          · rw [hi] at h1; simp only [Option.some.injEq, Prod.mk.injEq] at h1
            obtain ⟨rfl, rfl⟩ := h1
            refine ⟨by omega, .inr ⟨b, oo * n, c - oo, _, by rw [hlen], by omega, (Array.getElem?_eq_some_iff.1 h3).1, RepDss.tr (fun b hb => hb.1) (fun _ _ => rfl) _ _ _ (RepDss_take m (RepDss_drop oo h7)), ?_⟩⟩
            have hc := cellsAt_take (k := m * n) (cellsAt_drop (k := oo * n) (cellsAt_take (k := l.length * n) (cellsAt_block (o := 0) h3)))
            simpa using hc
    · cases ht
  | .agg l, v, d, p, h, ht, hp => by
    simp only [toD] at ht
    split at ht
    · rename_i ds q hds
      simp only [Option.some.injEq, Prod.mk.injEq] at ht
      obtain ⟨rfl, rfl⟩ := ht
      simp only [RepA] at h
      obtain ⟨vs, rfl, h⟩ := h
      simp only [RepD]
      exact ⟨vs, rfl, toDs_rep S l vs ds q h hds hp⟩
    · cases ht
  | .rp l, v, d, p, h, ht, hp => by
    simp only [toD, Option.some.injEq, Prod.mk.injEq] at ht
    obtain ⟨rfl, _⟩ := ht
    simp only [RepA, RepD] at h ⊢
    obtain ⟨b, o, vs, e, hb, h1, h2⟩ := h
    exact ⟨b, o, vs, e, hb.1, RepDs.tr (fun b hb => hb.1) (fun _ _ => rfl) _ _ h1, h2⟩
  | .pt nm oo, v, d, p, h, ht, hp => by
    simp only [toD] at ht
    split at ht
    · rename_i g' T c hh
      split at ht
      · rename_i ds hds
        simp only [Option.some.injEq, Prod.mk.injEq] at ht
        obtain ⟨rfl, rfl⟩ := ht
        subst hp
        simp only [RepA, RepD] at h ⊢
        obtain ⟨b, cc, hi, rfl⟩ := h
        obtain ⟨b', cap, cur, h1, h2, h3, h4⟩ := S.ent nm _ hh
        rw [hi] at h1; simp only [Option.some.injEq, Prod.mk.injEq] at h1
        obtain ⟨rfl, rfl⟩ := h1
        have h5 := RepAs_drop oo h4
        rw [allDat_eq hds] at h5
        exact ⟨b, oo, _, rfl, (Array.getElem?_eq_some_iff.1 h3).1, RepDs.tr (fun b hb => hb.1) (fun _ _ => rfl) _ _ (RepAs_dat.1 h5), cellsAt_block h3⟩
      · cases ht
    · cases ht
  | .un, v, d, p, h, ht, hp | .tup _, v, d, p, h, ht, hp | .ep .., v, d, p, h, ht, hp | .gd .., v, d, p, h, ht, hp | .pin .., v, d, p, h, ht, hp | .cl .., v, d, p, h, ht, hp | .mp .., v, d, p, h, ht, hp => by simp [toD] at ht
theorem toDs_rep (S : SimI C σ ι a w) : ∀ (l : List AV) (vs : List Value) (ds : List D) (p : Prop), RepAs (okOf C.F σ.h ι w) ι w true l vs → toDs σ.h l = some (ds, p) → p → RepDs (· < w.heap.size) w ds vs
  | [], vs, ds, p, h, ht, hp => by
    simp only [toDs, Option.some.injEq, Prod.mk.injEq] at ht
    obtain ⟨rfl, _⟩ := ht
    simpa only [RepAs, RepDs] using h
  | x :: l, vs, ds, p, h, ht, hp => by
    simp only [toDs] at ht
    split at ht
    · rename_i d p1 ds' p2 h1 h2
      simp only [Option.some.injEq, Prod.mk.injEq] at ht
      obtain ⟨rfl, rfl⟩ := ht
      simp only [RepAs] at h
      obtain ⟨v, vs', rfl, h3, h4, h5⟩ := h
      simp only [RepDs]
      exact ⟨v, vs', rfl, toD_rep S x v d p1 h3 h1 hp.1, by simpa using h4, toDs_rep S l vs' ds' p2 h5 h2 hp.2⟩
    · cases ht
end

theorem argsA_rep (S : SimI C σ ι a w) (hg : g = true) : ∀ (l : List AV) (vs : List Value) (ds : List D) (p : Prop), RepAs (okOf C.F σ.h ι w) ι w false l vs → argsD g σ.h l = some (ds, p) → p → RepL (· < w.heap.size) w ds vs
  | [], vs, ds, p, hr, h, hp => by
    simp only [argsD, Option.some.injEq, Prod.mk.injEq] at h
    obtain ⟨rfl, _⟩ := h
    simpa only [RepL, RepAs] using hr
  | x :: l, vs, ds, p, hr, h, hp => by
    simp only [argsD] at h
    simp only [RepAs] at hr
    obtain ⟨v, vs', rfl, hx, _, hr⟩ := hr
    split at h
    · rename_i d p1 ds' p2 h1 h2
      simp only [Option.some.injEq, Prod.mk.injEq] at h
      obtain ⟨rfl, rfl⟩ := h
      simp only [RepL]
      exact ⟨_, _, rfl, toD_rep S _ _ d p1 (sp_rep hg hp.1 hx) h1 hp.2.1, argsA_rep S hg l vs' ds' p2 hr h2 hp.2.2⟩
    · cases h

theorem argsA_dat (S : SimI C σ ι a w) (hg : g = true) : ∀ (l : List AV) (vs : List Value) (ds : List D) (p : Prop), RepAs (okOf C.F σ.h ι w) ι w false l vs → allD l = true → argsD g σ.h l = some (ds, p) → p → RepL (okOf C.F σ.h ι w) w ds vs
  | [], vs, ds, p, hr, _, h, hp => by
    simp only [argsD, Option.some.injEq, Prod.mk.injEq] at h
    obtain ⟨rfl, _⟩ := h
    simpa only [RepL, RepAs] using hr
  | x :: l, vs, ds, p, hr, hd, h, hp => by
    simp only [argsD] at h
    simp only [allD] at hd
    simp only [RepAs] at hr
    obtain ⟨v, vs', rfl, hx, _, hr⟩ := hr
    split at h
    · rename_i d p1 ds' p2 h1 h2
      simp only [Option.some.injEq, Prod.mk.injEq] at h
      obtain ⟨rfl, rfl⟩ := h
      split at hd
      · rename_i d0 hd0
        rw [hd0] at h1
        simp only [toD, Option.some.injEq, Prod.mk.injEq] at h1
        obtain ⟨rfl, _⟩ := h1
        have e := sp_rep hg hp.1 hx
        rw [hd0] at e
        simp only [RepA] at e
        simp only [RepL]
        exact ⟨_, _, rfl, e, argsA_dat S hg l vs' ds' p2 hr hd h2 hp.2.2⟩
      · cases hd
    · cases h
theorem RepL.tr {ok ok' : Nat → Prop} {w : World} (hok : ∀ b, ok b → ok' b) : ∀ (ds : List D) (vs : List Value), RepL ok w ds vs → RepL ok' w ds vs
  | [], vs, h => by simpa only [RepL] using h
  | d :: l, vs, h => by
    simp only [RepL] at h ⊢
    obtain ⟨v, vs', e, h1, h2⟩ := h
    exact ⟨v, vs', e, RepD.tr hok (fun _ _ => rfl) d v h1, RepL.tr hok l vs' h2⟩

mutual
theorem still_rep {ok ok' : Nat → Prop} {w : World} {ι : Nat → Option (Nat × Nat)} : ∀ (r : RV) (v : Value) (bs : List Nat), (∀ b, ok b → ok' b) → (∀ b ∈ bs, ok' b) → RepR ok w r v bs → RepA ok' ι w (still r) v
  | .dat d, v, bs, hok, hb, h => by
    simp only [RepR] at h
    simp only [still, RepA]
    exact RepD.tr hok (fun _ _ => rfl) _ _ h.2
  | .own T n l, v, bs, hok, hb, h => by
    simp only [RepR] at h
    simp only [still, RepA, RepD]
    rcases h with ⟨rfl, rfl, rfl⟩ | ⟨b, cap, cur, rfl, rfl, h3, h4, h5, h6, h7⟩
    · exact ⟨by simp, .inl ⟨rfl, _, _, rfl⟩⟩
    · refine ⟨by omega, .inr ⟨b, 0, cap, _, rfl, h5, hb b (by simp), RepDss.tr hok (fun _ _ => rfl) _ _ _ h7, ?_⟩⟩
      have hc := cellsAt_take (k := l.length * n) (cellsAt_block (o := 0) h3)
      simpa using hc
  | .agg l, v, bs, hok, hb, h => by
    simp only [RepR] at h
    obtain ⟨vs, rfl, h⟩ := h
    simp only [still]
    exact mkAgg_rep (stills_rep true l vs bs hok hb h)
  | .tup l, v, bs, hok, hb, h => by
    simp only [RepR] at h
    obtain ⟨vs, rfl, h⟩ := h
    simp only [still, RepA]
    exact ⟨vs, rfl, stills_rep false l vs bs hok hb h⟩
theorem stills_rep {ok ok' : Nat → Prop} {w : World} {ι : Nat → Option (Nat × Nat)} (one : Bool) : ∀ (l : List RV) (vs : List Value) (bs : List Nat), (∀ b, ok b → ok' b) → (∀ b ∈ bs, ok' b) → RepRs ok w one l vs bs → RepAs ok' ι w one (stills l) vs
  | [], vs, bs, hok, hb, h => by
    simp only [RepRs] at h
    simp only [stills, RepAs]
    exact h.1
  | r :: l, vs, bs, hok, hb, h => by
    simp only [RepRs] at h
    obtain ⟨v, vs', b1, b2, rfl, rfl, h1, h2, h3⟩ := h
    simp only [stills, RepAs]
    exact ⟨v, vs', rfl, still_rep r v b1 hok (fun b hb' => hb b (by simp [hb'])) h1, h2, stills_rep one l vs' b2 hok (fun b hb' => hb b (by simp [hb'])) h3⟩
end

mutual
theorem RepD_plain {ok ok' : Nat → Prop} {w w' : World} : ∀ (d : D) (v : Value), d.plain = true → RepD ok w d v → RepD ok' w' d v
  | .i n, v, _, h => by simpa only [RepD] using h
  | .b c, v, _, h => by simpa only [RepD] using h
  | .v u, v, _, h => by simpa only [RepD] using h
  | .agg l, v, hp, h => by
    simp only [RepD] at h ⊢
    obtain ⟨vs, e, h⟩ := h
    exact ⟨vs, e, RepDs_plain l vs (by simpa only [D.plain] using hp) h⟩
  | .sl n l, v, hp, h => by simp [D.plain] at hp
  | .bx l, v, hp, h => by simp [D.plain] at hp
  | .any, v, hp, h => by simp only [RepD]
theorem RepDs_plain {ok ok' : Nat → Prop} {w w' : World} : ∀ (l : List D) (vs : List Value), D.plainL l = true → RepDs ok w l vs → RepDs ok' w' l vs
  | [], vs, _, h => by simpa only [RepDs] using h
  | d :: l, vs, hp, h => by
    simp only [D.plainL, Bool.and_eq_true] at hp
    simp only [RepDs] at h ⊢
    obtain ⟨v, vs', e, h1, h2, h3⟩ := h
    exact ⟨v, vs', e, RepD_plain d v hp.1 h1, h2, RepDs_plain l vs' hp.2 h3⟩
end
theorem RepDss_plain {ok ok' : Nat → Prop} {w w' : World} {n : Nat} : ∀ (l : List (List D)) (vs : List Value), D.plainLL l = true → RepDss ok w n l vs → RepDss ok' w' n l vs
  | [], vs, _, h => by simpa only [RepDss] using h
  | x :: l, vs, hp, h => by
    simp only [D.plainLL, Bool.and_eq_true] at hp
    simp only [RepDss] at h ⊢
    obtain ⟨v1, v2, e, h1, h2, h3⟩ := h
    exact ⟨v1, v2, e, h1, RepDs_plain x v1 hp.1 h2, RepDss_plain l v2 hp.2 h3⟩
mutual
theorem RepR_plain {ok ok' : Nat → Prop} {w : World} : ∀ (r : RV) (v : Value) (bs : List Nat), r.plain → RepR ok w r v bs → RepR ok' w r v bs
  | .dat d, v, bs, hp, h => by
    simp only [RepR] at h ⊢
    exact ⟨h.1, RepD_plain d v (by simpa only [RV.plain] using hp) h.2⟩
  | .own T n l, v, bs, hp, h => by
    simp only [RepR] at h ⊢
    rcases h with h | ⟨b, cap, cur, h1, h2, h3, h4, h5, h6, h7⟩
    · exact .inl h
    · exact .inr ⟨b, cap, cur, h1, h2, h3, h4, h5, h6, RepDss_plain l _ (by simpa only [RV.plain] using hp) h7⟩
  | .agg l, v, bs, hp, h => by
    simp only [RepR] at h ⊢
    obtain ⟨vs, e, h⟩ := h
    exact ⟨vs, e, RepRs_plain true l vs bs (by simpa only [RV.plain] using hp) h⟩
  | .tup l, v, bs, hp, h => by
    simp only [RepR] at h ⊢
    obtain ⟨vs, e, h⟩ := h
    exact ⟨vs, e, RepRs_plain false l vs bs (by simpa only [RV.plain] using hp) h⟩
theorem RepRs_plain {ok ok' : Nat → Prop} {w : World} (one : Bool) : ∀ (l : List RV) (vs : List Value) (bs : List Nat), RV.plainL l → RepRs ok w one l vs bs → RepRs ok' w one l vs bs
  | [], vs, bs, _, h => by simpa only [RepRs] using h
  | r :: l, vs, bs, hp, h => by
    simp only [RV.plainL] at hp
    simp only [RepRs] at h ⊢
    obtain ⟨v, vs', b1, b2, e1, e2, h1, h2, h3⟩ := h
    exact ⟨v, vs', b1, b2, e1, e2, RepR_plain r v b1 hp.1 h1, h2, RepRs_plain one l vs' b2 hp.2 h3⟩
end
mutual
theorem RepR_tr {ok ok' : Nat → Prop} {w : World} (hok : ∀ b, ok b → ok' b) : ∀ (r : RV) (v : Value) (bs : List Nat), RepR ok w r v bs → RepR ok' w r v bs
  | .dat d, v, bs, h => by
    simp only [RepR] at h ⊢
    exact ⟨h.1, RepD.tr hok (fun _ _ => rfl) _ _ h.2⟩
  | .own T n l, v, bs, h => by
    simp only [RepR] at h ⊢
    rcases h with h | ⟨b, cap, cur, h1, h2, h3, h4, h5, h6, h7⟩
    · exact .inl h
    · exact .inr ⟨b, cap, cur, h1, h2, h3, h4, h5, h6, RepDss.tr hok (fun _ _ => rfl) _ _ _ h7⟩
  | .agg l, v, bs, h => by
    simp only [RepR] at h ⊢
    obtain ⟨vs, e, h⟩ := h
    exact ⟨vs, e, RepRs_tr hok true l vs bs h⟩
  | .tup l, v, bs, h => by
    simp only [RepR] at h ⊢
    obtain ⟨vs, e, h⟩ := h
    exact ⟨vs, e, RepRs_tr hok false l vs bs h⟩
theorem RepRs_tr {ok ok' : Nat → Prop} {w : World} (hok : ∀ b, ok b → ok' b) (one : Bool) : ∀ (l : List RV) (vs : List Value) (bs : List Nat), RepRs ok w one l vs bs → RepRs ok' w one l vs bs
  | [], vs, bs, h => by simpa only [RepRs] using h
  | r :: l, vs, bs, h => by
    simp only [RepRs] at h ⊢
    obtain ⟨v, vs', b1, b2, e1, e2, h1, h2, h3⟩ := h
    exact ⟨v, vs', b1, b2, e1, e2, RepR_tr hok r v b1 h1, h2, RepRs_tr hok one l vs' b2 h3⟩
end
mutual
theorem RepR_lt {ok : Nat → Prop} {w : World} : ∀ (r : RV) (v : Value) (bs : List Nat), RepR ok w r v bs → ∀ b ∈ bs, b < w.heap.size
  | .dat d, v, bs, h => by simp only [RepR] at h; simp [h.1]
  | .own T n l, v, bs, h => by
    simp only [RepR] at h
    rcases h with ⟨rfl, _⟩ | ⟨b, cap, cur, rfl, h2, h3, _⟩
    · simp
    · intro b' hb'
      simp only [List.mem_singleton] at hb'; subst hb'
      exact (Array.getElem?_eq_some_iff.1 h3).1
  | .agg l, v, bs, h => by
    simp only [RepR] at h
    obtain ⟨vs, e, h⟩ := h
    exact RepRs_lt true l vs bs h
  | .tup l, v, bs, h => by
    simp only [RepR] at h
    obtain ⟨vs, e, h⟩ := h
    exact RepRs_lt false l vs bs h
theorem RepRs_lt {ok : Nat → Prop} {w : World} (one : Bool) : ∀ (l : List RV) (vs : List Value) (bs : List Nat), RepRs ok w one l vs bs → ∀ b ∈ bs, b < w.heap.size
  | [], vs, bs, h => by simp only [RepRs] at h; simp [h.2]
  | r :: l, vs, bs, h => by
    simp only [RepRs] at h
    obtain ⟨v, vs', b1, b2, e1, rfl, h1, h2, h3⟩ := h
    intro b hb
    simp only [List.mem_append] at hb
    rcases hb with hb | hb
    · exact RepR_lt r v b1 h1 b hb
    · exact RepRs_lt one l vs' b2 h3 b hb
end

structure SimX (C : Ctx) (e : List (Nat × AV)) (h : Hp) (okp : Nat → Prop) (ι : Nat → Option (Nat × Nat)) (a : Act) (w : World) : Prop where
  env : ∀ s, RepA okp ι w (get e s) (a.tmps.getD s undef)
  ent : ∀ nm x, geth h nm = some (true, x) → EntOk C.own okp ι w nm x
  inj : ∀ nm nm' x x' b c c', geth h nm = some (true, x) → geth h nm' = some (true, x') → nm ≠ nm' → ι nm = some (b, c) → ι nm' ≠ some (b, c')
  os : w.os = C.w0.os
  tape : w.tape = C.w0.tape
  output : w.output = C.w0.output
  size : C.w0.heap.size ≤ w.heap.size
  old : ∀ k, k < C.w0.heap.size → ¬ C.X k → w.heap[k]? = C.w0.heap[k]?
  def0 : a.defers = []
  tms : a.tmps.size = C.n
  sub : ∀ b, okp b → okOf C.F h ι w b

theorem SimX.toI {e : List (Nat × AV)} {h : Hp} {okp : Nat → Prop} (S : SimX C e h okp ι a w) : SimI C ⟨e, h⟩ ι a w :=
  ⟨fun s => RepA.tr S.sub (fun _ _ => rfl) _ _ (fun _ _ => rfl) (S.env s), fun nm x hx => (S.ent nm x hx).tr S.sub (fun _ _ => rfl) (fun _ _ _ => rfl) rfl (fun _ _ => rfl), S.inj, S.os, S.tape, S.output, S.size, S.old, S.def0, S.tms⟩

theorem SimX.name {e : List (Nat × AV)} {h : Hp} {okp : Nat → Prop} (S : SimX C e h okp ι a w) {d : Nat} {p : Option (Nat × Nat)} {T n : Nat} {l : List (List D)} (hf : fresh d ⟨e, h⟩ = true)
    (hnew : ∀ b c, p = some (b, c) → ¬ okp b ∧ ∀ nm y c', geth h nm = some (true, y) → ι nm ≠ some (b, c'))
    (hx : EntOk C.own okp (fun k => if k = d then p else ι k) w d (.arr T n l)) :
    SimX C e ((d, some (true, .arr T n l)) :: h) okp (fun k => if k = d then p else ι k) a w := by
  simp only [fresh, Bool.and_eq_true] at hf
  have hlive : ∀ k y, geth ((d, some (true, .arr T n l)) :: h) k = some (true, y) → k ≠ d → geth h k = some (true, y) := by
    intro k y hh hk
    simp only [geth] at hh
    have : (d == k) = false := by simpa using fun e => hk e.symm
    rw [this] at hh; exact hh
  have hne : ∀ (A : AV), A.refs d = false → ∀ k, A.refs k = true → (if k = d then p else ι k) = ι k := by
    intro A hA k hk
    rw [if_neg]
    rintro rfl
    rw [hA] at hk; cases hk
  refine ⟨fun s => RepA.tr (fun _ h => h) (fun _ _ => rfl) _ _ (hne _ (get_refs hf.1 s)) (S.env s), fun k y hy => ?_, ?_, S.os, S.tape, S.output, S.size, S.old, S.def0, S.tms, ?_⟩
  · by_cases hk : k = d
    · subst hk
      have : y = .arr T n l := by simp [geth] at hy; exact hy.symm
      subst this
      exact hx
    · have h1 := hlive k y hy hk
      have h2 := geth_refs hf.2 h1
      refine (S.ent k y h1).tr (fun _ h => h) (fun _ _ => rfl) (fun _ _ _ => rfl) (by simp [hk]) (fun j hj => ?_)
      rw [if_neg]
      rintro rfl
      rw [h2] at hj; cases hj
  · intro k k' y y' b c c' h1 h2 hkk hi
    by_cases hk : k = d
    · subst hk
      have hk' : k' ≠ k := fun e => hkk e.symm
      simp only [if_true] at hi
      simp only [hk', if_false]
      exact (hnew b c hi).2 k' y' c' (hlive _ _ h2 hk')
    · simp only [hk, if_false] at hi
      by_cases hk' : k' = d
      · subst hk'
        simp only [if_true]
        intro hp
        exact (hnew b c' hp).2 k y c (hlive _ _ h1 hk) hi
      · simp only [hk', if_false]
        exact S.inj k k' y y' b c c' (hlive _ _ h1 hk) (hlive _ _ h2 hk') hkk hi
  · intro b hb
    have h0 := S.sub b hb
    refine ⟨h0.1, fun k y c hy => ?_, h0.2.2⟩
    by_cases hk : k = d
    · subst hk
      simp only [if_true]
      intro hp
      exact (hnew b c hp).1 hb
    · simp only [hk, if_false]
      exact h0.2.1 k y c (hlive k y hy hk)

structure Named (C : Ctx) (e : List (Nat × AV)) (h h' : Hp) (okp : Nat → Prop) (ι ι' : Nat → Option (Nat × Nat)) (a : Act) (w : World) (k k' : Nat) (bs : List Nat) : Prop where
  sim : SimX C e (h' ++ h) okp ι' a w
  le : k ≤ k'
  same : ∀ j, j < k ∨ k' ≤ j → ι' j = ι j
  live : ∀ nm x b c, geth (h' ++ h) nm = some (true, x) → ι' nm = some (b, c) → b ∈ bs ∨ ∃ y, geth h nm = some (true, y) ∧ ι nm = some (b, c)
  free : ∀ j, k' ≤ j → fresh j ⟨e, h⟩ = true → fresh j ⟨e, h' ++ h⟩ = true

def AV.within (k k' : Nat) (A : AV) : Prop := ∀ j, A.refs j = true → k ≤ j ∧ j < k'

theorem refsL_mkAgg {l : List AV} {j : Nat} (h : (mkAgg l).refs j = true) : AV.refsL j l = true := by
  unfold mkAgg at h
  split at h
  · simp [AV.refs] at h
  · simpa only [AV.refs] using h

mutual
theorem inst_rep {e : List (Nat × AV)} {okp : Nat → Prop} : ∀ (r : RV) (k : Nat) (v : Value) (bs : List Nat) (ι : Nat → Option (Nat × Nat)) (h : Hp), SimX C e h okp ι a w → RepR okp w r v bs → bs.Nodup →
    (∀ b ∈ bs, ¬ okp b ∧ C.own b ∧ ∀ nm x c, geth h nm = some (true, x) → ι nm ≠ some (b, c)) → (∀ j, k ≤ j → j < (inst k r).2.2 → fresh j ⟨e, h⟩ = true) →
    ∃ ι', Named C e h (inst k r).2.1 okp ι ι' a w k (inst k r).2.2 bs ∧ RepA okp ι' w (inst k r).1 v ∧ (inst k r).1.within k (inst k r).2.2
  | .dat d, k, v, bs, ι, h, S, hr, hn, hb, hf => by
    simp only [RepR] at hr
    exact ⟨ι, ⟨S, Nat.le_refl _, fun _ _ => rfl, fun nm x b c h1 h2 => .inr ⟨x, h1, h2⟩, fun j _ hj => hj⟩, by simp only [inst, RepA]; exact hr.2, fun j hj => by simp [inst, AV.refs] at hj⟩
  | .own T n l, k, v, bs, ι, h, S, hr, hn, hb, hf => by
    simp only [RepR] at hr
    have hfk := hf k (Nat.le_refl _) (by simp [inst])
    have hlive : ∀ {p : Option (Nat × Nat)} (nm : Nat) (x : Ent) (b c : Nat), geth ((k, some (true, .arr T n l)) :: h) nm = some (true, x) → (if nm = k then p else ι nm) = some (b, c) → (nm = k ∧ p = some (b, c)) ∨ (geth h nm = some (true, x) ∧ ι nm = some (b, c)) := by
      intro p nm x b c h1 h2
      by_cases hk : nm = k
      · subst hk; simp at h2; exact .inl ⟨rfl, h2⟩
      · simp only [hk, if_false] at h2
        simp only [geth] at h1
        have : (k == nm) = false := by simpa using fun e => hk e.symm
        rw [this] at h1
        exact .inr ⟨h1, h2⟩
    have hfree : ∀ j, k + 1 ≤ j → fresh j ⟨e, h⟩ = true → fresh j ⟨e, [(k, some (true, .arr T n l))] ++ h⟩ = true := fun j _ hj => fresh_arr (σ := ⟨e, h⟩) hj
    rcases hr with ⟨rfl, rfl, rfl⟩ | ⟨b, cap, cur, rfl, rfl, h3, h4, h5, h6, h7⟩
    · refine ⟨_, ⟨S.name (d := k) (p := none) hfk (fun b c hp => by cases hp) (.inl ⟨by simp, rfl⟩), by simp [inst], fun j hj => ?_, fun nm x b c h1 h2 => ?_, hfree⟩, ?_, ?_⟩
      · rw [if_neg]; simp only [inst] at hj; omega
      · rcases hlive nm x b c h1 h2 with ⟨_, h⟩ | h
        · cases h
        · exact .inr ⟨x, h⟩
      · simp [inst, RepA]
      · intro j hj; simp only [inst, AV.refs, beq_iff_eq] at hj ⊢; omega
    · obtain ⟨hb1, hb2, hb3⟩ := hb b (by simp)
      refine ⟨_, ⟨S.name (d := k) (p := some (b, cap)) hfk (fun b' c' hp => ?_) (.inr ⟨b, cap, cur, by simp, hb2, h3, h4, h5, h6, h7⟩), by simp [inst], fun j hj => ?_, fun nm x b' c' h1 h2 => ?_, hfree⟩, ?_, ?_⟩
      · simp only [Option.some.injEq, Prod.mk.injEq] at hp
        obtain ⟨rfl, rfl⟩ := hp
        exact ⟨hb1, hb3⟩
      · rw [if_neg]; simp only [inst] at hj; omega
      · rcases hlive nm x b' c' h1 h2 with ⟨_, h⟩ | h
        · simp only [Option.some.injEq, Prod.mk.injEq] at h; exact .inl (by simp [h.1])
        · exact .inr ⟨x, h⟩
      · simp only [inst, RepA]; exact .inr ⟨b, cap, by simp, by simp, by omega⟩
      · intro j hj; simp only [inst, AV.refs, beq_iff_eq] at hj ⊢; omega
  | .agg l, k, v, bs, ι, h, S, hr, hn, hb, hf => by
    simp only [RepR] at hr
    obtain ⟨vs, rfl, hr⟩ := hr
    simp only [inst] at hf ⊢
    obtain ⟨ι', h1, h2, h3⟩ := insts_rep true l k vs bs ι h S hr hn hb hf
    exact ⟨ι', h1, mkAgg_rep h2, fun j hj => h3 j (refsL_mkAgg hj)⟩
  | .tup l, k, v, bs, ι, h, S, hr, hn, hb, hf => by
    simp only [RepR] at hr
    obtain ⟨vs, rfl, hr⟩ := hr
    simp only [inst] at hf ⊢
    obtain ⟨ι', h1, h2, h3⟩ := insts_rep false l k vs bs ι h S hr hn hb hf
    exact ⟨ι', h1, by simp only [RepA]; exact ⟨vs, rfl, h2⟩, fun j hj => h3 j (by simpa only [AV.refs] using hj)⟩
theorem insts_rep {e : List (Nat × AV)} {okp : Nat → Prop} (one : Bool) : ∀ (l : List RV) (k : Nat) (vs : List Value) (bs : List Nat) (ι : Nat → Option (Nat × Nat)) (h : Hp), SimX C e h okp ι a w → RepRs okp w one l vs bs → bs.Nodup →
    (∀ b ∈ bs, ¬ okp b ∧ C.own b ∧ ∀ nm x c, geth h nm = some (true, x) → ι nm ≠ some (b, c)) → (∀ j, k ≤ j → j < (insts k l).2.2 → fresh j ⟨e, h⟩ = true) →
    ∃ ι', Named C e h (insts k l).2.1 okp ι ι' a w k (insts k l).2.2 bs ∧ RepAs okp ι' w one (insts k l).1 vs ∧ (∀ j, AV.refsL j (insts k l).1 = true → k ≤ j ∧ j < (insts k l).2.2)
  | [], k, vs, bs, ι, h, S, hr, hn, hb, hf => by
    simp only [RepRs] at hr
    exact ⟨ι, ⟨S, Nat.le_refl _, fun _ _ => rfl, fun nm x b c h1 h2 => .inr ⟨x, h1, h2⟩, fun j _ hj => hj⟩, by simp only [insts, RepAs]; exact hr.1, fun j hj => by simp [insts, AV.refsL] at hj⟩
  | r :: l, k, vs, bs, ι, h, S, hr, hn, hb, hf => by
    simp only [RepRs] at hr
    obtain ⟨v, vs', b1, b2, rfl, rfl, hr1, hone, hr2⟩ := hr
    simp only [insts] at hf ⊢
    have hn1 := (List.nodup_append.1 hn).1
    have hn2 := (List.nodup_append.1 hn).2.1
    have hn3 := (List.nodup_append.1 hn).2.2
    have hle : (inst k r).2.2 ≤ (insts (inst k r).2.2 l).2.2 := insts_le l _
    obtain ⟨ι1, N1, R1, W1⟩ := inst_rep r k v b1 ι h S hr1 hn1 (fun b hb' => hb b (by simp [hb'])) (fun j h1 h2 => hf j h1 (by omega))
    obtain ⟨ι2, N2, R2, W2⟩ := insts_rep one l (inst k r).2.2 vs' b2 ι1 _ N1.sim hr2 hn2 (fun b hb' => by
      obtain ⟨q1, q2, q3⟩ := hb b (by simp [hb'])
      refine ⟨q1, q2, fun nm x c hx hi => ?_⟩
      rcases N1.live nm x b c hx hi with h1 | ⟨y, h1, h2⟩
      · exact hn3 b h1 b hb' rfl
      · exact q3 nm y c h1 h2) (fun j h1 h2 => N1.free j h1 (hf j (Nat.le_trans N1.le h1) h2))
    refine ⟨ι2, ⟨by rw [List.append_assoc]; exact N2.sim, Nat.le_trans N1.le N2.le, fun j hj => ?_, fun nm x b c h1 h2 => ?_, fun j h1 h2 => ?_⟩, ?_, ?_⟩
    · rw [N2.same j (by have := N1.le; have := N2.le; omega), N1.same j (by have := N1.le; have := N2.le; omega)]
    · rw [List.append_assoc] at h1
      rcases N2.live nm x b c h1 h2 with h3 | ⟨y, h3, h4⟩
      · exact .inl (by simp [h3])
      · rcases N1.live nm y b c h3 h4 with h5 | h5
        · exact .inl (by simp [h5])
        · exact .inr h5
    · rw [List.append_assoc]
      exact N2.free j h1 (N1.free j (Nat.le_trans N2.le h1) h2)
    · simp only [RepAs]
      refine ⟨v, vs', rfl, RepA.tr (fun _ h => h) (fun _ _ => rfl) _ _ (fun j hj => N2.same j (.inl (W1 j hj).2)) R1, hone, R2⟩
    · intro j hj
      simp only [AV.refsL, Bool.or_eq_true] at hj
      have := N1.le
      have := N2.le
      rcases hj with hj | hj
      · have := W1 j hj; omega
      · have := W2 j hj; omega
theorem inst_le : ∀ (r : RV) (k : Nat), k ≤ (inst k r).2.2
  | .dat d, k => Nat.le_refl _
  | .own T n l, k => by simp [inst]
  | .agg l, k => by simp only [inst]; exact insts_le l k
  | .tup l, k => by simp only [inst]; exact insts_le l k
theorem insts_le : ∀ (l : List RV) (k : Nat), k ≤ (insts k l).2.2
  | [], k => Nat.le_refl _
  | r :: l, k => by
    simp only [insts]
    exact Nat.le_trans (inst_le r k) (insts_le l _)
end
theorem mix_rep {ok' : Nat → Prop} {w' : World} (S : SimI C σ ι a w) (hg : g = true) (xs : List AV) (ys : List Value) (hxs : RepAs (okOf C.F σ.h ι w) ι w false xs ys) (hlt : ∀ b, okOf C.F σ.h ι w b → ok' b) (hw : ∀ b, okOf C.F σ.h ι w b → w'.heap[b]? = w.heap[b]?) : ∀ (l : List RV) (cs : List D) (q : Prop) (us : List Value),
    cellsM g xs l = some (cs, q) → q → MixR w' ys l us → RepDs ok' w' cs us
  | [], cs, q, us, h, _, hm => by
    simp only [cellsM, Option.some.injEq, Prod.mk.injEq] at h
    obtain ⟨rfl, _⟩ := h
    simpa only [MixR, RepDs] using hm
  | r :: l, cs, q, us, h, hq, hm => by
    simp only [cellsM] at h
    split at h
    · rename_i d p1 ds q1 h1 h2
      simp only [Option.some.injEq, Prod.mk.injEq] at h
      obtain ⟨rfl, rfl⟩ := h
      simp only [MixR] at hm
      obtain ⟨u, us', rfl, ho, hr, hm⟩ := hm
      simp only [RepDs]
      refine ⟨u, us', rfl, ?_, ho, mix_rep S hg xs ys hxs hlt hw l ds q1 us' h2 hq.2 hm⟩
      unfold cellM at h1
      split at h1
      · simp only [Option.some.injEq, Prod.mk.injEq] at h1
        obtain ⟨rfl, rfl⟩ := h1
        exact RepD_plain _ u hq.1 hr
      · rename_i k
        split at h1
        · rename_i av hav
          split at h1
          · rename_i d' hd'
            simp only [Option.some.injEq, Prod.mk.injEq] at h1
            obtain ⟨rfl, rfl⟩ := h1
            obtain ⟨v, hv, hrv, _⟩ := RepAs_get _ hxs hav
            simp only [hv, Option.some.injEq] at hr
            subst hr
            have e := sp_rep hg hq.1 hrv
            rw [hd'] at e
            simp only [RepA] at e
            exact RepD.tr hlt hw _ _ e
          · cases h1
        · cases h1
      · cases h1
    · cases h
end
end Go.Eng

namespace Go.Eng
open Go.RowKit

def isFn (P : Program) (f : FuncId) : Bool := match P.funcs[f]? with
  | some fn => !(fn.name == "runtime.NumGoroutine") && fn.body.isSome
  | none => false

def SndW (C : Ctx) (o : Oper) (g : Bool) (σ : St) (out : Out) : Prop :=
  ∀ ι a w, SimI C σ ι a w → g = true → out.side → ∀ (K : Act → World → Prop) (Q : Exit → Act → World → Prop),
    (∀ v w' ι', out.know → SimI C ⟨σ.e, out.hp ++ σ.h⟩ ι' a w' → RepA (okOf C.F (out.hp ++ σ.h) ι' w') ι' w' out.av v → K (a.put o.dst v) w') → o.wp C.P a w K Q

section
variable {C : Ctx} {σ : St} {o : Oper} {g : Bool}

theorem Snd.toW {out : Out} (h : Snd C o g σ out) : SndW C o g σ out := by
  intro ι a w S hg hs K Q hK
  obtain ⟨nx, w', v, h1, h2, h3, ι', h4, h5⟩ := h ι a w S hg hs
  unfold Oper.wp
  rw [h1]
  rcases h2 with rfl | ⟨rfl, rfl⟩
  · exact hK v w' ι' h3 h4 h5
  · exact hK undef w' ι' h3 h4 h5

theorem freshR_spec : ∀ {n k j : Nat}, freshR σ k n = true → k ≤ j → j < k + n → fresh j σ = true
  | 0, k, j, h, h1, h2 => by omega
  | n + 1, k, j, h, h1, h2 => by
    simp only [freshR, Bool.and_eq_true] at h
    by_cases hj : j = k
    · subst hj; exact h.1
    · exact freshR_spec h.2 (by omega) (by omega)

theorem opAs_rep {ι : Nat → Option (Nat × Nat)} {a : Act} {w : World} (S : SimI C σ ι a w) : ∀ (l : List Operand), RepAs (okOf C.F σ.h ι w) ι w false (l.map (opnd σ.e)) (l.map a.eval)
  | [] => by simp [RepAs]
  | x :: l => by
    simp only [List.map_cons, RepAs]
    exact ⟨_, _, rfl, S.opnd x, (fun h => absurd h (by decide)), opAs_rep S l⟩

def addS (p : Prop) : Option Out → Option Out
  | some x => some ⟨x.av, x.hp, p ∧ x.side, x.know⟩
  | none => none

theorem run_enterF {P : Program} {f : Nat} (hf : isFn P f = true) (args : Array Value) (w : World) : (callFunc f args).run P w = .ok (.enter f args) w := by
  unfold isFn at hf
  cases hfn : P.funcs[f]? with
  | none => simp [hfn] at hf
  | some fn =>
    simp only [hfn, Bool.and_eq_true, Bool.not_eq_true'] at hf
    obtain ⟨h1, h2⟩ := hf
    have h1' : ¬ fn.name = "runtime.NumGoroutine" := by simpa using h1
    have h3' : ¬ fn.body = none := by intro hb; simp [hb] at h2
    simp [callFunc, hfn, h1', h3']

theorem snd_callA {Γ : FuncId → List D → RV} {fz : Bool} {d f : Nat} {as : List AV} {p0 : Prop} {out0 out : Out}
    (hrn : ∀ ι a w, SimI C σ ι a w → g = true → p0 → ∃ args : Array Value, (execOp a.eval o).run C.P w = .ok (.enter f args) w ∧ RepAs (okOf C.F σ.h ι w) ι w false as args.toList)
    (h : vCall C.P Γ fz d f g σ as = some out0) (h' : addS p0 (some out0) = some out) : SndW C o g σ out := by
  simp only [addS, Option.some.injEq] at h'; subst h'
  unfold vCall at h
  split at h
  · cases h
  · rename_i ds p hds
    generalize Γ f ds = r at h
    split at h
    · rename_i l hl
      unfold vCallM at h
      split at h
      · rename_i cs q hcs
        simp only [Option.some.injEq] at h; subst h
        intro ι a w S hg hs K Q hK
        obtain ⟨hs0, hs⟩ := hs
        obtain ⟨args, hrun, hra⟩ := hrn ι a w S hg hs0
        unfold Oper.wp
        rw [hrun]
        have hargs := argsA_rep S hg as args.toList ds p hra hds hs.1
        have hc := hs.2.2 w args hargs
        refine hc.mono ?_
        rintro e w' ⟨us, rfl, hbl, hm⟩
        have hlt : ∀ b, okOf C.F σ.h ι w b → okOf C.F σ.h ι w' b := fun b hb => ⟨Nat.lt_of_lt_of_le hb.1 hbl.size, hb.2⟩
        have hw : ∀ b, okOf C.F σ.h ι w b → w'.heap[b]? = w.heap[b]? := fun b hb => hbl.block b hb.1
        have S' : SimI C σ ι a w' := ⟨fun s => RepA.tr hlt hw _ _ (fun _ _ => rfl) (S.env s), fun nm x hx => (S.ent nm x hx).tr hlt hw (fun b c hi => hbl.block b (S.live_lt hx hi)) rfl (fun _ _ => rfl), S.inj, hbl.os.trans S.os, hbl.tape.trans S.tape, hbl.output.trans S.output, Nat.le_trans S.size hbl.size,
          fun k hk hx => (hbl.block k (Nat.lt_of_lt_of_le hk S.size)).trans (S.old k hk hx), S.def0, S.tms⟩
        refine hK _ w' ι trivial S' ?_
        simp only [RepA, RepD]
        exact ⟨us, rfl, mix_rep S hg as args.toList hra hlt hw l cs q us hcs hs.2.1 hm⟩
      · cases h
    unfold vCallR at h
    have key : ∀ ι a w, SimI C σ ι a w → g = true → p0 ∧ p ∧ (allD as = true ∨ r.plain) ∧ Fn C.P f ds r → ∀ (K : Act → World → Prop) (Q : Exit → Act → World → Prop),
        (∀ v w' bs, SimX C σ.e σ.h (fun b => okOf C.F σ.h ι w' b ∧ b ∉ bs) ι a w' → bs.Nodup → (∀ b ∈ bs, C.own b ∧ okOf C.F σ.h ι w' b ∧ ∀ nm x c, geth σ.h nm = some (true, x) → ι nm ≠ some (b, c)) → RepR (fun b => okOf C.F σ.h ι w' b ∧ b ∉ bs) w' r v bs → K (a.put o.dst v) w') → o.wp C.P a w K Q := by
      intro ι a w S hg hs K Q hK
      obtain ⟨hs0, hs⟩ := hs
      obtain ⟨args, hrun, hra⟩ := hrn ι a w S hg hs0
      unfold Oper.wp
      rw [hrun]
      have hargs := argsA_rep S hg as args.toList ds p hra hds hs.1
      suffices hc : Calls C.P f args w fun e w' => ∃ v bs, e = .returned v ∧ Below w.heap.size w w' ∧ bs.Nodup ∧ (∀ b ∈ bs, w.heap.size ≤ b) ∧ (∀ b ∈ bs, b < w'.heap.size) ∧ RepR (fun b => okOf C.F σ.h ι w' b ∧ b ∉ bs) w' r v bs by
       refine hc.mono ?_
       rintro e w' ⟨v, bs, rfl, hbl, hnd, hbs, hlt', hr⟩
       have hlt : ∀ b, okOf C.F σ.h ι w b → okOf C.F σ.h ι w' b ∧ b ∉ bs := fun b hb => ⟨⟨Nat.lt_of_lt_of_le hb.1 hbl.size, hb.2⟩, fun hm => by have := hbs b hm; have := hb.1; omega⟩
       have hw : ∀ b, okOf C.F σ.h ι w b → w'.heap[b]? = w.heap[b]? := fun b hb => hbl.block b hb.1
       have hnl : ∀ b ∈ bs, ∀ nm x c, geth σ.h nm = some (true, x) → ι nm ≠ some (b, c) := fun b hb nm x c hx hi => by have := S.live_lt hx hi; have := hbs b hb; omega
       exact hK v w' bs ⟨fun s => RepA.tr hlt hw _ _ (fun _ _ => rfl) (S.env s), fun nm x hx => (S.ent nm x hx).tr hlt hw (fun b c hi => hbl.block b (S.live_lt hx hi)) rfl (fun _ _ => rfl), S.inj, hbl.os.trans S.os, hbl.tape.trans S.tape, hbl.output.trans S.output, Nat.le_trans S.size hbl.size,
        fun k hk hx => (hbl.block k (Nat.lt_of_lt_of_le hk S.size)).trans (S.old k hk hx), S.def0, S.tms, fun b hb => hb.1⟩ hnd (fun b hb => ⟨.inl (Nat.le_trans S.size (hbs b hb)), ⟨hlt' b hb, hnl b hb, fun hF => by have := hbs b hb; have := S.size; have := hF.2.1; omega⟩, hnl b hb⟩) hr
      rcases hs.2.1 with hd | hpl
      · have hc := hs.2.2 w args (fun b => ¬ okOf C.F σ.h ι w b) (by
          have := argsA_dat S hg as args.toList ds p hra hd hds hs.1
          exact RepL.tr (ok' := fun b => b < w.heap.size ∧ ¬ ¬ okOf C.F σ.h ι w b) (fun b hb => ⟨hb.1, fun hn => hn hb⟩) _ _ this)
        refine hc.mono ?_
        rintro e w' ⟨v, bs, rfl, hbl, hnd, hbs, hr⟩
        refine ⟨v, bs, rfl, hbl, hnd, hbs, RepR_lt r v bs hr, RepR_tr (fun b hb => ⟨?_, hb.2⟩) r v bs hr⟩
        rcases Nat.lt_or_ge b w.heap.size with hlt | hge
        · have h0 : okOf C.F σ.h ι w b := Classical.byContradiction fun hn => hb.1.2 ⟨hn, hlt⟩
          exact ⟨hb.1.1, h0.2⟩
        · exact ⟨hb.1.1, fun nm x c hx hi => by have := S.live_lt hx hi; omega, fun hF => by have := S.size; have := hF.2.1; omega⟩
      · have hc := hs.2.2 w args (fun _ => False) (RepL.tr (ok' := fun b => b < w.heap.size ∧ ¬ False) (fun b hb => ⟨hb, not_false⟩) _ _ hargs)
        refine hc.mono ?_
        rintro e w' ⟨v, bs, rfl, hbl, hnd, hbs, hr⟩
        exact ⟨v, bs, rfl, hbl, hnd, hbs, RepR_lt r v bs hr, RepR_plain r v bs hpl hr⟩
    cases fz
    · simp only [cond_false] at h
      cases hfr0 : (freshR σ (10000 + 100 * d) ((inst (10000 + 100 * d) r).2.2 - (10000 + 100 * d)) && decide ((inst (10000 + 100 * d) r).2.2 ≤ 10000 + 100 * d + 100))
      · simp [hfr0] at h
      · simp only [hfr0, cond_true, Option.some.injEq] at h; subst h
        simp only [Bool.and_eq_true] at hfr0
        have hfr := hfr0.1
        intro ι a w S hg hs K Q hK
        refine key ι a w S hg hs K Q fun v w' bs SX hnd hb hr => ?_
        have hle := inst_le (C := C) (a := a) (w := w') r (10000 + 100 * d)
        obtain ⟨ι', N, R, _⟩ := inst_rep r (10000 + 100 * d) v bs ι σ.h SX hr hnd (fun b hb' => ⟨fun h => h.2 hb', (hb b hb').1, (hb b hb').2.2⟩) (fun j h1 h2 => freshR_spec hfr h1 (by omega))
        exact hK v w' ι' trivial N.sim.toI (RepA.tr N.sim.sub (fun _ _ => rfl) _ _ (fun _ _ => rfl) R)
    · simp only [cond_true, Option.some.injEq] at h; subst h
      intro ι a w S hg hs K Q hK
      refine key ι a w S hg hs K Q fun v w' bs SX hnd hb hr => ?_
      exact hK v w' ι trivial SX.toI (still_rep r v bs (fun b hb => hb.1) (fun b hb' => (hb b hb').2.1) hr)

theorem snd_call {Γ : FuncId → List D → RV} {fz : Bool} {d f : Nat} {args : Array Operand} {ts : Array TypeId} {out : Out} (ho : o.op = .call ⟨.value (.func f), args, ts⟩) (hf : isFn C.P f = true)
    (h : vCall C.P Γ fz d f g σ (args.toList.map (opnd σ.e)) = some out) : SndW C o g σ out := by
  have := snd_callA (o := o) (p0 := True) (out := ⟨out.av, out.hp, True ∧ out.side, out.know⟩) (fun ι a w S _ _ => ⟨args.map a.eval, by simp [execOp, ho, resolve, Act.eval, Deferred.ofValue, invoke, run_enterF hf], by simpa using opAs_rep S args.toList⟩) h rfl
  intro ι a w S hg hs K Q hK
  exact this ι a w S hg ⟨trivial, hs⟩ K Q hK

theorem snd_clo {Γ : FuncId → List D → RV} {fz : Bool} {d f t : Nat} {args : Array Operand} {ts : Array TypeId} {l : List AV} {out : Option Out} {out' : Out} (ho : o.op = .call ⟨.value (.tmp t), args, ts⟩) (hf : isFn C.P f = true)
    (hv : sp (get σ.e t) = .cl f l ∨ (l = [] ∧ ∃ fs cs : Array Value, sp (get σ.e t) = .dat (.v (.func (.func f) fs cs)) ∧ fs.toList = [] ∧ cs.toList = []))
    (h : vCall C.P Γ fz d f g σ (args.toList.map (opnd σ.e) ++ l) = out) (h' : addS (pk g (get σ.e t)) out = some out') : SndW C o g σ out' := by
  cases out with
  | none => simp [addS] at h'
  | some out0 =>
    refine snd_callA (fun ι a w S hg hp => ?_) h h'
    have e := sp_rep hg hp (S.env t)
    have ha := opAs_rep S args.toList
    rcases hv with hv | ⟨rfl, fs, cs, hv, h1, h2⟩
    · rw [hv] at e
      simp only [RepA] at e
      obtain ⟨vs, e, hr⟩ := e
      refine ⟨args.map a.eval ++ vs.toArray, ?_, by simpa using RepAs_append ha hr⟩
      simp [execOp, ho, resolve, Act.eval, e, Deferred.ofValue, invoke, run_enterF hf]
    · rw [hv] at e
      simp only [RepA, RepD] at e
      have h1 : fs = #[] := by rw [← Array.toList_inj]; exact h1
      have h2 : cs = #[] := by rw [← Array.toList_inj]; exact h2
      subst h1 h2
      refine ⟨args.map a.eval, ?_, by simpa using ha⟩
      simp [execOp, ho, resolve, Act.eval, e, Deferred.ofValue, invoke, run_enterF hf]
end
end Go.Eng

