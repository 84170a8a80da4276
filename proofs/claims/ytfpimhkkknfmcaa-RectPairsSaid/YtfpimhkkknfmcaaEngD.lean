import Derived.Test.YtfpimhkkknfmcaaEngC
import Derived.Laws.Tables
namespace Go.Eng
open Go.RowKit

/-! ### What an operation yields, of abstract values -/

structure Out where
  av : AV
  hp : Hp
  side : Prop
  know : Prop

def sp : AV → AV
  | .gd _ x => sp x
  | x => x
def pk (g : Bool) : AV → Prop
  | .gd g' x => (g = true → g' = true) ∧ pk g x
  | _ => True

def opnd (e : List (Nat × AV)) : Operand → AV
  | .tmp t => get e t
  | .const v => .dat (dOf v)
  | .func f => .dat (.v (.func (.func f) #[] #[]))
  | .global _ => .un

section
variable {C : Ctx} {σ : St} {ι : Nat → Option (Nat × Nat)} {a : Act} {w : World} {ok : Nat → Prop}

theorem sp_rep {g : Bool} (hg : g = true) : ∀ {x : AV} {v : Value}, pk g x → RepA ok ι w x v → RepA ok ι w (sp x) v
  | .gd g' x, v, hp, h => by
    simp only [pk] at hp
    simp only [RepA] at h
    simp only [sp]
    exact sp_rep hg hp.2 (h.1 (hp.1 hg))
  | .un, v, hp, h | .dat _, v, hp, h | .agg _, v, hp, h | .tup _, v, hp, h | .rp _, v, hp, h | .pt .., v, hp, h | .ep .., v, hp, h | .vw .., v, hp, h => by simpa only [sp] using h

theorem SimI.opnd (S : SimI C σ ι a w) (x : Operand) : RepA (okOf σ.h ι w) ι w (opnd σ.e x) (a.eval x) := by
  cases x with
  | tmp t => exact S.env t
  | const v => simp only [Eng.opnd, RepA, Act.eval]; exact RepD_dOf _ _ _
  | func f => simp only [Eng.opnd, RepA, RepD, Act.eval]
  | global g => simp only [Eng.opnd, RepA]

theorem SimI.sopnd (S : SimI C σ ι a w) {g : Bool} (hg : g = true) (x : Operand) (hp : pk g (Eng.opnd σ.e x)) : RepA (okOf σ.h ι w) ι w (sp (Eng.opnd σ.e x)) (a.eval x) :=
  sp_rep hg hp (S.opnd x)
end

/-- The cells of a value. -/
def cellsOf : AV → Option (List AV)
  | .dat (.agg l) => some (l.map AV.dat)
  | .agg l => some l
  | .dat (.i n) => some [.dat (.i n)]
  | .dat (.b c) => some [.dat (.b c)]
  | .dat (.v u) => bif u.oneCell' then some [.dat (.v u)] else none
  | .dat (.sl n l) => some [.dat (.sl n l)]
  | .pt nm o => some [.pt nm o]
  | .ep nm k f n => some [.ep nm k f n]
  | .vw nm o m n => some [.vw nm o m n]
  | .rp l => some [.rp l]
  | _ => none

/-- A struct's value out of its cells. -/
def allDat : List AV → Option (List D)
  | [] => some []
  | .dat d :: l => (allDat l).map (d :: ·)
  | _ :: _ => none
def mkAgg (l : List AV) : AV := match allDat l with
  | some ds => .dat (.agg ds)
  | none => .agg l

def spl {α : Type} (l : List α) (o : Nat) (xs : List α) : List α := l.take o ++ xs ++ l.drop (o + xs.length)

section
variable {ι : Nat → Option (Nat × Nat)} {w : World} {ok : Nat → Prop}

theorem allDat_eq : ∀ {l : List AV} {ds : List D}, allDat l = some ds → l = ds.map AV.dat
  | [], ds, h => by simp [allDat] at h; subst h; rfl
  | .dat d :: l, ds, h => by
    simp only [allDat, Option.map_eq_some_iff] at h
    obtain ⟨ds', h1, rfl⟩ := h
    simp [allDat_eq h1]
  | .un :: l, ds, h | .agg _ :: l, ds, h | .tup _ :: l, ds, h | .rp _ :: l, ds, h | .pt .. :: l, ds, h | .ep .. :: l, ds, h | .vw .. :: l, ds, h | .gd .. :: l, ds, h => by simp [allDat] at h

theorem mkAgg_rep {l : List AV} {vs : List Value} (h : RepAs ok ι w true l vs) : RepA ok ι w (mkAgg l) (.agg vs.toArray) := by
  unfold mkAgg
  split
  · rename_i ds hd
    have := allDat_eq hd
    subst this
    simp only [RepA, RepD]
    exact ⟨vs, rfl, RepAs_dat.1 h⟩
  · simp only [RepA]
    exact ⟨vs, rfl, h⟩

theorem cellsOf_rep {a : AV} {v : Value} {l : List AV} (h : RepA ok ι w a v) (hc : cellsOf a = some l) : RepAs ok ι w true l v.cells.toList := by
  have one : ∀ {a : AV} {v : Value}, RepA ok ι w a v → v.oneCell' = true → RepAs ok ι w true [a] v.cells.toList := by
    intro a v h h1
    have e : v.cells.toList = [v] := by cases v <;> simp [Value.oneCell'] at h1 <;> rfl
    rw [e]
    simp only [RepAs]
    exact ⟨v, [], rfl, h, fun _ => h1, rfl⟩
  unfold cellsOf at hc
  split at hc
  · simp only [Option.some.injEq] at hc; subst hc
    simp only [RepA, RepD] at h
    obtain ⟨vs, rfl, h⟩ := h
    simp only [Value.cells]
    exact RepAs_dat.2 h
  · simp only [Option.some.injEq] at hc; subst hc
    simp only [RepA] at h
    obtain ⟨vs, rfl, h⟩ := h
    exact h
  · simp only [Option.some.injEq] at hc; subst hc
    exact one h (by simp only [RepA, RepD] at h; subst h; rfl)
  · simp only [Option.some.injEq] at hc; subst hc
    exact one h (by simp only [RepA, RepD] at h; subst h; rfl)
  · rename_i u
    cases hu : u.oneCell'
    · simp [hu] at hc
    · simp only [hu, cond_true, Option.some.injEq] at hc; subst hc
      exact one h (by simp only [RepA, RepD] at h; subst h; exact hu)
  · simp only [Option.some.injEq] at hc; subst hc
    refine one h ?_
    simp only [RepA, RepD] at h
    rcases h with ⟨_, ⟨_, a, cap, rfl⟩ | ⟨b, o, cap, vs, rfl, _⟩⟩ <;> rfl
  · simp only [Option.some.injEq] at hc; subst hc
    refine one h ?_
    simp only [RepA] at h
    obtain ⟨b, c, _, rfl⟩ := h; rfl
  · simp only [Option.some.injEq] at hc; subst hc
    refine one h ?_
    simp only [RepA] at h
    obtain ⟨b, c, _, rfl⟩ := h; rfl
  · simp only [Option.some.injEq] at hc; subst hc
    refine one h ?_
    simp only [RepA] at h
    rcases h with ⟨_, rfl, _⟩ | ⟨b, c, _, rfl, _⟩ <;> rfl
  · simp only [Option.some.injEq] at hc; subst hc
    refine one h ?_
    simp only [RepA] at h
    obtain ⟨b, o, vs, rfl, _⟩ := h; rfl
  · cases hc

theorem RepAs_spl {l xs : List AV} {vs ws : List Value} {o : Nat} (h : RepAs ok ι w true l vs) (hx : RepAs ok ι w true xs ws) : RepAs ok ι w true (spl l o xs) (spl vs o ws) := by
  unfold spl
  rw [RepAs_length hx]
  exact RepAs_append (RepAs_append (RepAs_take o h) hx) (RepAs_drop _ h)

theorem RepDs_spl {l xs : List D} {vs ws : List Value} {o : Nat} (h : RepDs ok w l vs) (hx : RepDs ok w xs ws) : RepDs ok w (spl l o xs) (spl vs o ws) := by
  unfold spl
  rw [RepDs_length hx]
  exact RepDs_append (RepDs_append (RepDs_take o h) hx) (RepDs_drop _ h)
end

theorem foldl_set_spl (off : Nat) : ∀ (xs : List Value) (k : Nat) (cells : Array Value), off + k + xs.length ≤ cells.size →
    ((xs.zipIdx k).foldl (fun cs (p : Value × Nat) => cs.setIfInBounds (off + p.2) p.1) cells).toList = spl cells.toList (off + k) xs
  | [], k, cells, h => by simp [spl]
  | x :: xs, k, cells, h => by
    simp only [List.length_cons] at h
    simp only [List.zipIdx_cons, List.foldl_cons]
    rw [foldl_set_spl off xs (k + 1) _ (by simp; omega)]
    unfold spl
    have hk : off + k < cells.toList.length := by simp; omega
    simp only [Array.toList_setIfInBounds]
    apply List.ext_getElem?
    intro j
    simp only [List.getElem?_append, List.length_append, List.length_take, List.getElem?_take, List.getElem?_drop, List.getElem?_set, List.length_set, List.length_cons, List.getElem?_cons]
    have hm : min (off + (k + 1)) cells.toList.length = off + k + 1 := by simp at hk ⊢; omega
    have hm2 : min (off + k) cells.toList.length = off + k := by simp at hk ⊢; omega
    simp only [hm, hm2]
    by_cases h1 : j < off + k
    · have e1 : j < off + k + 1 := by omega
      have e2 : j < off + k + 1 + xs.length := by omega
      have e3 : j < off + k + (xs.length + 1) := by omega
      have e4 : j < off + (k + 1) := by omega
      have e5 : ¬ off + k = j := by omega
      simp [h1, e1, e2, e3, e4, e5]
    · by_cases h2 : j = off + k
      · subst h2
        have e1 : off + k < off + k + 1 + xs.length := by omega
        have e3 : off + k < off + k + (xs.length + 1) := by omega
        have e4 : off + k < off + (k + 1) := by omega
        simp at hk
        simp [e1, e3, e4, hk]
      · by_cases h3 : j < off + k + 1 + xs.length
        · have e1 : ¬ j < off + k + 1 := by omega
          have e3 : j < off + k + (xs.length + 1) := by omega
          have e6 : ¬ j - (off + k) = 0 := by omega
          have e7 : j - (off + k) - 1 = j - (off + k + 1) := by omega
          simp [h1, e1, h3, e3, e6, e7]
        · have e3 : ¬ j < off + k + (xs.length + 1) := by omega
          have e5 : ¬ off + k = off + (k + 1) + xs.length + (j - (off + k + 1 + xs.length)) := by omega
          have e6 : off + (k + 1) + xs.length + (j - (off + k + 1 + xs.length)) = off + k + (xs.length + 1) + (j - (off + k + (xs.length + 1))) := by omega
          simp only [h3, e3, if_false, e6]
          rw [if_neg (by omega)]

/-- A struct or an array filled part by part. -/
def bld (place : Nat → Option (Nat × Nat)) : List (Nat × AV) → List AV → Option (List AV)
  | [], l => some l
  | (i, x) :: rest, l => match place i with
    | none => none
    | some (off, size) => match cellsOf (sp x) with
      | none => none
      | some cs => bif cs.length == size && decide ((off + size) ≤ l.length) then bld place rest (spl l off cs) else none

section
variable {ι : Nat → Option (Nat × Nat)} {w : World} {ok : Nat → Prop}

theorem bld_rep {g : Bool} (hg : g = true) (place : Nat → Option (Nat × Nat)) : ∀ (ps : List (Nat × AV)) (vs : List (Nat × Value)) (l l' : List AV) (cells : Array Value),
    ps.map (·.1) = vs.map (·.1) → (∀ (k : Nat) (p : Nat × AV) (q : Nat × Value), ps[k]? = some p → vs[k]? = some q → RepA ok ι w p.2 q.2 ∧ pk g p.2) →
    RepAs ok ι w true l cells.toList → bld place ps l = some l' → ∃ cells', Instr.fill place cells vs = some cells' ∧ RepAs ok ι w true l' cells'.toList
  | [], [], l, l', cells, _, _, h, hb => by
    simp only [bld, Option.some.injEq] at hb; subst hb
    exact ⟨cells, rfl, h⟩
  | [], _ :: _, l, l', cells, hm, _, h, hb => by simp at hm
  | _ :: _, [], l, l', cells, hm, _, h, hb => by simp at hm
  | (i, x) :: ps, (i', v) :: vs, l, l', cells, hm, hr, h, hb => by
    simp only [List.map_cons, List.cons.injEq] at hm
    obtain ⟨rfl, hm⟩ := hm
    simp only [bld] at hb
    cases hp : place i with
    | none => simp [hp] at hb
    | some os =>
      obtain ⟨off, size⟩ := os
      simp only [hp] at hb
      cases hc : cellsOf (sp x) with
      | none => simp [hc] at hb
      | some cs =>
        simp only [hc] at hb
        obtain ⟨hx, hpk⟩ := hr 0 (i, x) (i, v) rfl rfl
        have hcs := cellsOf_rep (sp_rep hg hpk hx) hc
        have hl1 := RepAs_length hcs
        have hl2 := RepAs_length h
        cases ht : (cs.length == size && decide ((off + size) ≤ l.length)) with
        | false => simp [ht] at hb
        | true =>
          simp only [ht, cond_true] at hb
          simp only [Bool.and_eq_true, beq_iff_eq, decide_eq_true_eq] at ht
          have e := foldl_set_spl off v.cells.toList 0 cells (by simp at hl1 hl2 ⊢; omega)
          simp only [Nat.add_zero] at e
          have hsz : v.cells.size = size := by simp at hl1; omega
          have hcell : cells.size = l.length := by simpa using hl2
          obtain ⟨cells', h1, h2⟩ := bld_rep hg place ps vs (spl l off cs) l' (v.cells.zipIdx.foldl (fun cs (p : Value × Nat) => cs.setIfInBounds (off + p.2) p.1) cells) hm
            (fun k p q hk hq => hr (k + 1) p q (by simpa using hk) (by simpa using hq)) (by
              rw [← Array.foldl_toList, Array.toList_zipIdx, e]
              exact RepAs_spl h hcs) hb
          refine ⟨cells', ?_, h2⟩
          simp only [Instr.fill, hp]
          rw [if_neg (by simp [hsz]; omega)]
          exact h1
end
end Go.Eng
