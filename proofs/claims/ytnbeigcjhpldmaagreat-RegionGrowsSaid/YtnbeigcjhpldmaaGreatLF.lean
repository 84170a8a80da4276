import Derived.Test.YtnbeigcjhpldmaaGreatLE
import Derived.Test.YtnbeigcjhpldmaaGreatEF
import Derived.Shelf.SlSortCmp.NoneTotal
import Derived.Sort.OwnSortedInts
set_option linter.unusedSimpArgs false
set_option linter.unusedVariables false
set_option linter.unusedSimpArgs false
set_option linter.unusedVariables false
namespace Go.Rect
open Go.Eng
def rnR (y h : Int) (p : Rw) : Rc := ⟨p.lo, y, p.hi - p.lo, h⟩
theorem flat_app (l m : List Bd) : flatB (l ++ m) = flatB l ++ flatB m := by simp [flatB]
theorem flat_one (b : Bd) : flatB [b] = b.rs.map (rnR b.y b.h) := by
  simp only [flatB, List.flatMap_cons, List.flatMap_nil, List.append_nil]; rfl
def canK (f : Int → List Rw) (ys : List Int) : Nat → List Bd
  | 0 => []
  | k + 1 => cstep (canK f ys k) (ys.getD k 0) (ys.getD (k + 1) 0 - ys.getD k 0) (f (ys.getD k 0))
theorem canL_K (f : Int → List Rw) : ∀ (xs : List Int) (st : List Bd) (k : Nat) (zs : List Int), zs.drop k = xs → st = canK f zs k → canL f st xs = canK f zs (zs.length - 1) ∨ (xs = [] ∧ canL f st xs = st)
  | [], st, k, zs, _, _ => .inr ⟨rfl, rfl⟩
  | [x], st, k, zs, h, hs => .inl (by
      have : zs.length = k + 1 := by have := congrArg List.length h; simp at this; omega
      rw [this]; simp [canL, hs])
  | x :: x2 :: l, st, k, zs, h, hs => by
    have hx : zs.getD k 0 = x := by
      have := congrArg (·[0]?) h
      simp only [List.getElem?_drop, Nat.add_zero, List.getElem?_cons_zero] at this
      rw [List.getD_eq_getElem?_getD, this]; rfl
    have hx2 : zs.getD (k + 1) 0 = x2 := by
      have := congrArg (·[1]?) h
      simp only [List.getElem?_drop, List.getElem?_cons_succ, List.getElem?_cons_zero] at this
      rw [List.getD_eq_getElem?_getD, this]; rfl
    rw [canL]
    refine canL_K f (x2 :: l) _ (k + 1) zs ?_ ?_ |>.elim .inl fun h => absurd h.1 (by simp)
    · rw [← List.drop_drop, h]; rfl
    · rw [canK, hx, hx2, hs]
theorem canK_all (f : Int → List Rw) (ys : List Int) : canK f ys (ys.length - 1) = canL f [] ys := by
  rcases canL_K f ys [] 0 ys rfl rfl with h | ⟨rfl, h⟩
  · exact h.symm
  · rfl
def RwOk (rs : List Rw) : Prop := ∀ p ∈ rs, -1048576 ≤ p.lo ∧ p.lo < p.hi ∧ p.hi ≤ 1048576
structure Ys (ys : List Int) : Prop where
  asc : Asc ys
  bd : ∀ y ∈ ys, -1048576 ≤ y ∧ y ≤ 1048576
theorem Ys.at {ys : List Int} {k : Nat} (h : Ys ys) (hk : k < ys.length) : -1048576 ≤ ys.getD k 0 ∧ ys.getD k 0 ≤ 1048576 := by
  refine h.bd _ ?_
  rw [List.getD_eq_getElem?_getD, List.getElem?_eq_getElem hk]; exact List.getElem_mem hk
structure BdOk' (st : List Bd) (y : Int) (n : Nat) : Prop where
  wd : Wd (flatB st)
  en : ∀ c, st.getLast? = some c → c.y + c.h ≤ y
  le : (flatB st).length ≤ n
  ne : ∀ c ∈ st, c.rs ≠ []
theorem empty_rn {y h : Int} {p : Rw} (hp : -1048576 ≤ p.lo ∧ p.lo < p.hi ∧ p.hi ≤ 1048576) (h1 : -1048576 ≤ y) (h2 : 0 < h) (h3 : y + h ≤ 1048576) : emptyB (rnR y h p) = false := by
  rw [empty_spec]; simp only [rnR]; omega
theorem wd_app {a b : List Rc} : Wd (a ++ b) ↔ Wd a ∧ Wd b := by
  simp only [Wd, List.mem_append]
  exact ⟨fun h => ⟨fun r hr => h r (.inl hr), fun r hr => h r (.inr hr)⟩, fun h r hr => hr.elim (h.1 r) (h.2 r)⟩
theorem wd_rn {y h : Int} {rs : List Rw} (hp : RwOk rs) (h1 : -1048576 ≤ y) (h2 : 0 < h) (h3 : y + h ≤ 1048576) : Wd (rs.map (rnR y h)) := fun r hr => by
  obtain ⟨p, hp', rfl⟩ := List.mem_map.1 hr
  exact empty_rn (hp p hp') h1 h2 h3
theorem rn_ok {y h : Int} {rs : List Rw} (hw : Wd (rs.map (rnR y h))) (hn : rs ≠ []) : RwOk rs ∧ -1048576 ≤ y ∧ 0 < h ∧ y + h ≤ 1048576 := by
  have key : ∀ p ∈ rs, (-1048576 ≤ p.lo ∧ p.lo < p.hi ∧ p.hi ≤ 1048576) ∧ -1048576 ≤ y ∧ 0 < h ∧ y + h ≤ 1048576 := fun p hp => by
    have := hw _ (List.mem_map.2 ⟨p, hp, rfl⟩)
    rw [empty_spec] at this
    simp only [rnR] at this
    omega
  obtain ⟨p, hp⟩ := List.exists_mem_of_ne_nil rs hn
  exact ⟨fun p hp => (key p hp).1, (key p hp).2⟩
theorem cstep_ok {st : List Bd} {y h : Int} {rs : List Rw} {n m : Nat} (hs : BdOk' st y n) (hr : RwOk rs) (hl : rs.length ≤ m) (h1 : -1048576 ≤ y) (h2 : 0 < h) (h3 : y + h ≤ 1048576) : BdOk' (cstep st y h rs) (y + h) (n + m) := by
  unfold cstep
  by_cases h0 : rs = []
  · rw [if_pos h0]
    exact ⟨hs.wd, fun c hc => by have := hs.en c hc; omega, by have := hs.le; omega, hs.ne⟩
  rw [if_neg h0]
  rcases List.eq_nil_or_concat st with rfl | ⟨l, c, rfl⟩
  · simp only [List.getLast?_nil]
    exact ⟨by rw [flat_one]; exact wd_rn hr h1 h2 h3, fun c hc => by simp at hc; subst hc; simp, by rw [flat_one, List.length_map]; simp only; omega, fun c hc => by simp at hc; subst hc; exact h0⟩
  · rw [List.concat_eq_append] at *
    simp only [List.getLast?_append, List.getLast?_singleton, Option.some_or, List.dropLast_concat]
    have hw := hs.wd
    rw [flat_app, flat_one, wd_app] at hw
    have hle := hs.le
    rw [flat_app, flat_one, List.length_append, List.length_map] at hle
    have hne := hs.ne
    have he := hs.en c (by simp)
    split
    · rename_i hc
      refine ⟨?_, fun d hd => ?_, ?_, fun d hd => ?_⟩
      · rw [flat_app, flat_one, wd_app]
        have hc3 := rn_ok hw.2 (hne c (by simp))
        exact ⟨hw.1, wd_rn hr (by simp only; omega) (by simp only; omega) (by simp only; omega)⟩
      · simp at hd; subst hd; simp only; omega
      · rw [flat_app, flat_one, List.length_append, List.length_map]; simp only; rw [← hc.2] at *; omega
      · simp at hd
        rcases hd with hd | rfl
        · exact hne d (by simp [hd])
        · exact h0
    · refine ⟨?_, fun d hd => ?_, ?_, fun d hd => ?_⟩
      · rw [flat_app, wd_app, flat_one, flat_app, flat_one, wd_app]
        exact ⟨hw, wd_rn hr h1 h2 h3⟩
      · simp at hd; subst hd; simp
      · rw [flat_app, flat_one, List.length_append, List.length_map, flat_app, flat_one, List.length_append, List.length_map]; simp only; omega
      · simp at hd
        rcases hd with hd | rfl | rfl
        · exact hne d (by simp [hd])
        · exact hne d (by simp)
        · exact h0
theorem canK_ok {f : Int → List Rw} {ys : List Int} {m : Nat} (hf : ∀ y, RwOk (f y) ∧ (f y).length ≤ m) (hy : Ys ys) : ∀ (k : Nat), k < ys.length → BdOk' (canK f ys k) (ys.getD k 0) (k * m)
  | 0, h => ⟨fun r hr => by simp [canK, flatB] at hr, fun c hc => by simp [canK] at hc, by simp [canK, flatB], fun c hc => by simp [canK] at hc⟩
  | k + 1, h => by
    have ih := canK_ok hf hy k (by omega)
    have h1 := hy.at (k := k) (by omega)
    have h2 := hy.at (k := k + 1) h
    have h3 := asc_at hy.asc h
    have := cstep_ok (h := ys.getD (k + 1) 0 - ys.getD k 0) ih (hf (ys.getD k 0)).1 (hf (ys.getD k 0)).2 h1.1 (by omega) (by omega)
    rw [show ys.getD k 0 + (ys.getD (k + 1) 0 - ys.getD k 0) = ys.getD (k + 1) 0 from by omega] at this
    rw [canK, Nat.add_mul, Nat.one_mul]
    exact this
theorem hgt_ys {a b : List Rc} (ha : Wd a) (hb : Wd b) : Ys (hgtF a b) := by
  refine ⟨asc_cmp _, fun y hy => ?_⟩
  rw [hgtF, mem_cmp, List.mem_append] at hy
  have key : ∀ {l : List Rc}, Wd l → y ∈ edY l → -1048576 ≤ y ∧ y ≤ 1048576 := by
    intro l
    induction l with
    | nil => intro _ h; simp [edY] at h
    | cons r l ih =>
      intro hw h
      have hr := empty_spec.1 (hw r (by simp))
      simp only [edY, List.mem_cons] at h
      rcases h with rfl | rfl | h
      · omega
      · omega
      · exact ih (fun q hq => hw q (by simp [hq])) h
  exact hy.elim (key ha) (key hb)
theorem wd_pos {l : List Rc} (h : Wd l) : Pos l := fun r hr => by have := empty_spec.1 (h r hr); omega
theorem comb_ok {keep : Bool → Bool → Bool} (h0 : keep false false = false) {A B : List Rw} (hA : Mx A) (hB : Mx B) :
    Mx (combF keep A B) ∧ ∀ z, inR (combF keep A B) z ↔ keep (atR A z) (atR B z) = true :=
  comb_spec h0 hA hB (colX_asc A B) (fun e => mem_cmp _ e)
theorem mx_mem : ∀ {l : List Rw} {p : Rw}, Mx l → p ∈ l → p.lo < p.hi ∧ inR l p.lo ∧ inR l (p.hi - 1)
  | [], p, _, h => by cases h
  | q :: l, p, hm, h => by
    rcases List.mem_cons.1 h with rfl | h
    · exact ⟨hm.1, inR_cons.2 (.inl ⟨Int.le_refl _, hm.1⟩), inR_cons.2 (.inl (by have := hm.1; omega))⟩
    · have := mx_mem hm.2.2 h
      exact ⟨this.1, inR_cons.2 (.inr this.2.1), inR_cons.2 (.inr this.2.2)⟩
def rowKp (keep : Bool → Bool → Bool) (A B : List Rc) (y : Int) : List Rw := combF keep (rowF A y) (rowF B y)
theorem wd_in {l : List Rc} {x y : Int} (h : Wd l) (hx : inLs l x y) : -1048576 ≤ x ∧ x < 1048576 ∧ -1048576 ≤ y ∧ y < 1048576 := by
  obtain ⟨r, hr, h1⟩ := hx
  have := empty_spec.1 (h r hr)
  unfold hasI at h1
  omega
theorem rowKp_ok {keep : Bool → Bool → Bool} (h0 : keep false false = false) {A B : List Rc} (hA : Wd A) (hB : Wd B) (lA : A.length ≤ 256) (lB : B.length ≤ 256) (y : Int) : RwOk (rowKp keep A B y) ∧ (rowKp keep A B y).length ≤ 1024 := by
  have sA := rowF_spec (y := y) (wd_pos hA)
  have sB := rowF_spec (y := y) (wd_pos hB)
  have hc := comb_ok h0 sA.1 sB.1
  have hin : ∀ z, inR (rowKp keep A B y) z → -1048576 ≤ z ∧ z < 1048576 := fun z hz => by
    have hk := (hc.2 z).1 hz
    cases ha : atR (rowF A y) z
    · cases hb : atR (rowF B y) z
      · rw [ha, hb, h0] at hk; cases hk
      · have := wd_in hB ((sB.2 z).1 ((atR_in sB.1).1 hb)); omega
    · have := wd_in hA ((sA.2 z).1 ((atR_in sA.1).1 ha)); omega
  refine ⟨fun p hp => ?_, ?_⟩
  · have h1 := mx_mem hc.1 hp
    have h2 := hin _ h1.2.1
    have h3 := hin _ h1.2.2
    exact ⟨by omega, h1.1, by omega⟩
  · have h1 := rowF_len A y
    have h2 := rowF_len B y
    have h3 := colX_len (rowF A y) (rowF B y)
    have h4 := rnK_len (fun x => keep (atR (rowF A y) x) (atR (rowF B y) x)) (colX (rowF A y) (rowF B y)) ((colX (rowF A y) (rowF B y)).length - 1)
    rw [gk_all (Nat.le_refl _) (by omega)] at h4
    have h5 : (rowKp keep A B y).length ≤ (colX (rowF A y) (rowF B y)).length - 1 := h4
    omega
def begB (st : List Bd) : Nat := (flatB st.dropLast).length
theorem begB_le (st : List Bd) : begB st ≤ (flatB st).length := by
  rcases List.eq_nil_or_concat st with rfl | ⟨l, c, rfl⟩
  · exact Nat.le_refl _
  · rw [List.concat_eq_append, begB, List.dropLast_concat, flat_app, List.length_append]; omega
def lastB (st : List Bd) : List Rc := (flatB st).drop (begB st)
theorem last_c (l : List Bd) (c : Bd) : lastB (l ++ [c]) = c.rs.map (rnR c.y c.h) := by
  rw [lastB, begB, List.dropLast_concat, flat_app, List.drop_left, flat_one]
theorem lastB_wd {st : List Bd} (h : Wd (flatB st)) : Wd (lastB st) := fun r hr => h r (List.mem_of_mem_drop hr)
theorem go_map {c : Bd} {rs : List Rw} {y : Int} (hn : rs ≠ []) : goB (c.rs.map (rnR c.y c.h)) rs y = decide (c.y + c.h = y ∧ c.rs = rs) := by
  rw [goB, decide_eq_decide]
  rw [List.length_map]
  constructor
  · rintro ⟨h1, h2⟩
    have h0 : 0 < rs.length := List.length_pos_iff.2 hn
    have hg : ∀ j, j < c.rs.length → (c.rs.map (rnR c.y c.h)).getD j zR = rnR c.y c.h (c.rs.getD j zN) := fun j hj => by
      simp [List.getD_eq_getElem?_getD, List.getElem?_eq_getElem hj]
    refine ⟨?_, List.ext_getElem h1 fun j hj hj2 => ?_⟩
    · have := h2 0 (by omega)
      rw [hg 0 (by omega)] at this
      exact this.1
    · have := h2 j hj
      rw [hg j hj] at this
      simp only [goP, rnR, List.getD_eq_getElem?_getD, List.getElem?_eq_getElem hj, List.getElem?_eq_getElem hj2, Option.getD_some] at this
      exact rw_ext ⟨this.2.1, by omega⟩
  · rintro ⟨h1, rfl⟩
    refine ⟨rfl, fun j hj => ?_⟩
    have e1 : (c.rs.map (rnR c.y c.h)).getD j zR = rnR c.y c.h (c.rs.getD j zN) := by simp [List.getD_eq_getElem?_getD, List.getElem?_eq_getElem hj]
    rw [e1]
    refine ⟨h1, rfl, ?_⟩
    simp only [rnR]
    omega
theorem cs_0 {st : List Bd} {y h : Int} {rs : List Rw} (h0 : rs = []) : cstep st y h rs = st := by rw [cstep, if_pos h0]
theorem cs_y {st : List Bd} {y h : Int} {rs : List Rw} (h0 : rs ≠ []) (hg : goB (lastB st) rs y = true) : ∃ l c, st = l ++ [c] ∧ c.y + c.h = y ∧ c.rs = rs ∧ cstep st y h rs = l ++ [⟨c.y, c.h + h, rs⟩] := by
  rcases List.eq_nil_or_concat st with rfl | ⟨l, c, rfl⟩
  · have hl := List.length_pos_iff.2 h0
    rw [goB, decide_eq_true_eq] at hg
    have h1 := hg.1
    simp [lastB, flatB] at h1
    omega
  · rw [List.concat_eq_append] at *
    rw [last_c, go_map h0, decide_eq_true_eq] at hg
    refine ⟨l, c, rfl, hg.1, hg.2, ?_⟩
    rw [cstep, if_neg h0]
    simp only [List.getLast?_append, List.getLast?_singleton, Option.some_or, List.dropLast_concat]
    rw [if_pos hg]
theorem cs_n {st : List Bd} {y h : Int} {rs : List Rw} (h0 : rs ≠ []) (hg : goB (lastB st) rs y = false) : cstep st y h rs = st ++ [⟨y, h, rs⟩] := by
  rcases List.eq_nil_or_concat st with rfl | ⟨l, c, rfl⟩
  · rw [cstep, if_neg h0]; rfl
  · rw [List.concat_eq_append] at *
    rw [last_c, go_map h0, decide_eq_false_iff_not] at hg
    rw [cstep, if_neg h0]
    simp only [List.getLast?_append, List.getLast?_singleton, Option.some_or, List.dropLast_concat]
    rw [if_neg hg]
def hupL (L : List Rc) (b : Nat) (h : Int) (i : Nat) : List Rc := L.take b ++ ((L.take i).drop b).map (fun r : Rc => { r with h := r.h + h }) ++ L.drop i
theorem hup_0 (L : List Rc) (b : Nat) (h : Int) : hupL L b h b = L := by
  simp [hupL, List.drop_take]
theorem hup_len {L : List Rc} {b i : Nat} {h : Int} (hb : b ≤ i) (hi : i ≤ L.length) : (hupL L b h i).length = L.length := by simp [hupL]; omega
theorem hup_at {L : List Rc} {b i : Nat} {h : Int} (hb : b ≤ i) (hi : i < L.length) : (hupL L b h i).getD i zR = L.getD i zR := by
  rw [hupL, List.getD_eq_getElem?_getD, List.getElem?_append_right (by simp; omega)]
  simp only [List.length_append, List.length_take, List.length_map, List.length_drop]
  rw [List.getElem?_drop, List.getD_eq_getElem?_getD]
  congr 2; omega
theorem hup_s {L : List Rc} {b i : Nat} {h : Int} (hb : b ≤ i) (hi : i < L.length) : (hupL L b h i).set i ⟨(L.getD i zR).x, (L.getD i zR).y, (L.getD i zR).w, (L.getD i zR).h + h⟩ = hupL L b h (i + 1) := by
  have e1 : (L.take b ++ ((L.take i).drop b).map (fun r : Rc => { r with h := r.h + h })).length = i := by simp; omega
  rw [hupL, List.set_append_right _ _ (by omega), e1, Nat.sub_self, hupL, take_s zR hi, List.drop_append_of_le_length (by simp; omega), List.map_append, List.drop_eq_getElem_cons hi, List.set_cons_zero]
  simp [List.getD_eq_getElem?_getD, List.getElem?_eq_getElem hi]
theorem hup_all {l : List Bd} {c : Bd} {h : Int} : hupL (flatB (l ++ [c])) (flatB l).length h (flatB (l ++ [c])).length = flatB (l ++ [⟨c.y, c.h + h, c.rs⟩]) := by
  rw [hupL, List.drop_length, List.append_nil, List.take_length, flat_app, flat_app, List.take_left, List.drop_left, flat_one, flat_one, List.map_map]
  rfl
theorem hgt_len {a b : List Rc} (la : a.length ≤ 256) (lb : b.length ≤ 256) : (hgtF a b).length ≤ 1024 := by
  have := cmp_len (sortL (edY a ++ edY b))
  rw [sortL_len, List.length_append, edY_len, edY_len] at this
  rw [hgtF]; omega
def canoF (keep : Bool → Bool → Bool) (a b : List Rc) : List Rc := flatB (canL (rowKp keep (els a) (els b)) [] (hgtF (els a) (els b)))
def apB (st : List Bd) (y h : Int) (rs : List Rw) (m : Nat) : List Rc := flatB st ++ (rs.take m).map (rnR y h)
theorem apB_0 (st : List Bd) (y h : Int) (rs : List Rw) : apB st y h rs 0 = flatB st := by simp [apB]
theorem apB_s {st : List Bd} {y h : Int} {rs : List Rw} {m : Nat} (hm : (m : Int) < (rs.length : Int)) : apB st y h rs (m + 1) = apB st y h rs m ++ [⟨(rs.getD m zN).lo, y, (rs.getD m zN).hi - (rs.getD m zN).lo, h⟩] := by
  rw [apB, take_s zN (by omega), List.map_append, ← List.append_assoc]; rfl
theorem apB_len (st : List Bd) (y h : Int) (rs : List Rw) (m : Nat) : (apB st y h rs m).length ≤ (flatB st).length + rs.length := by simp [apB]; omega
theorem apB_all {st : List Bd} {y h : Int} {rs : List Rw} {m : Nat} (hm : (rs.length : Int) ≤ (m : Int)) : apB st y h rs m = flatB (st ++ [⟨y, h, rs⟩]) := by
  rw [apB, take_all hm, flat_app, flat_one]
theorem rowKp_eq (keep : Bool → Bool → Bool) (A B : List Rc) (y : Int) : combF keep (rowF A y) (rowF B y) = rowKp keep A B y := rfl
section
variable {f : Int → List Rw} {ys : List Int} {k m : Nat}
theorem ck_0 (h0 : ((f (ys.getD k 0)).length : Int) = 0) : canK f ys (k + 1) = canK f ys k := by
  rw [canK, cs_0 (List.eq_nil_of_length_eq_zero (by omega))]
theorem ck_ne (h0 : ¬ ((f (ys.getD k 0)).length : Int) = 0) : f (ys.getD k 0) ≠ [] := fun e => h0 (by rw [e]; rfl)
theorem ck_y (h0 : ¬ ((f (ys.getD k 0)).length : Int) = 0) (hg : goB (lastB (canK f ys k)) (f (ys.getD k 0)) (ys.getD k 0) = true) :
    hupL (flatB (canK f ys k)) (begB (canK f ys k)) (ys.getD (k + 1) 0 - ys.getD k 0) (flatB (canK f ys k)).length = flatB (canK f ys (k + 1)) ∧ begB (canK f ys (k + 1)) = begB (canK f ys k) ∧ (flatB (canK f ys (k + 1))).length = (flatB (canK f ys k)).length := by
  obtain ⟨l, c, e1, e2, e3, e4⟩ := cs_y (h := ys.getD (k + 1) 0 - ys.getD k 0) (ck_ne h0) hg
  rw [canK, e4, e1, begB, begB, List.dropLast_concat, List.dropLast_concat, hup_all, e3]
  refine ⟨rfl, rfl, ?_⟩
  rw [flat_app, flat_app, List.length_append, List.length_append, flat_one, flat_one, List.length_map, List.length_map, e3]
theorem ck_n (h0 : ¬ ((f (ys.getD k 0)).length : Int) = 0) (hg : goB (lastB (canK f ys k)) (f (ys.getD k 0)) (ys.getD k 0) = false) (hm : ((f (ys.getD k 0)).length : Int) ≤ (m : Int)) :
    apB (canK f ys k) (ys.getD k 0) (ys.getD (k + 1) 0 - ys.getD k 0) (f (ys.getD k 0)) m = flatB (canK f ys (k + 1)) ∧ begB (canK f ys (k + 1)) = (flatB (canK f ys k)).length := by
  rw [canK, cs_n (ck_ne h0) hg, apB_all hm, begB, List.dropLast_concat]
  exact ⟨rfl, rfl⟩
theorem ck_all (hI : k ≤ ys.length - 1) (hc : (ys.length : Int) ≤ (k : Int) + 1) : canK f ys k = canL f [] ys := by
  rw [← canK_all, show k = ys.length - 1 from by omega]
end
theorem begB_lt {st : List Bd} (h : ∀ c ∈ st, c.rs ≠ []) : begB st < (flatB st).length ∨ begB st = 0 := by
  rcases List.eq_nil_or_concat st with rfl | ⟨l, c, rfl⟩
  · exact .inr rfl
  · rw [List.concat_eq_append] at *
    have := List.length_pos_iff.2 (h c (by simp))
    left
    rw [begB, List.dropLast_concat, flat_app, List.length_append, flat_one, List.length_map]; omega
theorem tk_last (st : List Bd) : List.take ((flatB st).length - begB st) (List.drop (begB st) (List.map rcC (flatB st))) = (lastB st).map rcC := by
  rw [← List.map_drop, List.take_of_length_le (by simp)]; rfl
theorem rwok_at {rs : List Rw} {k : Nat} (h : RwOk rs) (hk : (k : Int) < (rs.length : Int)) : -1048576 ≤ (rs.getD k zN).lo ∧ (rs.getD k zN).lo < (rs.getD k zN).hi ∧ (rs.getD k zN).hi ≤ 1048576 := by
  refine h _ ?_
  rw [List.getD_eq_getElem?_getD, List.getElem?_eq_getElem (show k < rs.length by omega)]; exact List.getElem_mem _
theorem toNp1 (k : Nat) : ((k : Int) + 1).toNat = k + 1 := by omega
section
variable {f : Int → List Rw} {ys : List Int} {k m i : Nat}
theorem cky1 (h0 : ¬ ((f (ys.getD k 0)).length : Int) = 0) (hg : goB (lastB (canK f ys k)) (f (ys.getD k 0)) (ys.getD k 0) = true) (hA : begB (canK f ys k) ≤ i ∧ i ≤ (flatB (canK f ys k)).length) (hc : ((flatB (canK f ys k)).length : Int) ≤ (i : Int)) :
    (hupL (flatB (canK f ys k)) (begB (canK f ys k)) (ys.getD (k + 1) 0 - ys.getD k 0) i).map rcC = (flatB (canK f ys (k + 1))).map rcC := by
  rw [show i = (flatB (canK f ys k)).length from by omega, (ck_y h0 hg).1]
theorem ckn1 (h0 : ¬ ((f (ys.getD k 0)).length : Int) = 0) (hg : goB (lastB (canK f ys k)) (f (ys.getD k 0)) (ys.getD k 0) = false) (hm : ((f (ys.getD k 0)).length : Int) ≤ (m : Int)) :
    (apB (canK f ys k) (ys.getD k 0) (ys.getD (k + 1) 0 - ys.getD k 0) (f (ys.getD k 0)) m).map rcC = (flatB (canK f ys (k + 1))).map rcC ∧ ((flatB (canK f ys k)).length : Int) = (begB (canK f ys (k + 1)) : Int) ∧
    (apB (canK f ys k) (ys.getD k 0) (ys.getD (k + 1) 0 - ys.getD k 0) (f (ys.getD k 0)) m).length = (flatB (canK f ys (k + 1))).length := by
  obtain ⟨h1, h2⟩ := ck_n h0 hg hm
  rw [h1, h2]; exact ⟨rfl, rfl, rfl⟩
theorem hup_m {L : List Rc} {b : Nat} {h : Int} (hb : b ≤ i) (hi : (i : Int) < (L.length : Int)) : ((hupL L b h i).map rcC).set i [.i (L.getD i zR).x, .i (L.getD i zR).y, .i (L.getD i zR).w, .i ((L.getD i zR).h + h)] = (hupL L b h (i + 1)).map rcC := by
  rw [← hup_s hb (by omega), List.map_set]; rfl
end
end Go.Rect

set_option linter.unusedSimpArgs false
set_option linter.unusedVariables false
namespace Go.Eng
open Go.RowKit
theorem Fn.nil1 {P : Program} {f : FuncId} {d : D} {ds : List D} {r : RV} (n : Nat) (h : Fn P f (d :: .sl n [] :: ds) r) : Fn P f (d :: .v (.slice none 0 0) :: ds) r := by
  intro w vs G hv
  refine h w vs G ?_
  simp only [RepL, RepD] at hv ⊢
  obtain ⟨v, vs', e, h1, v2, vs2, e2, rfl, h2⟩ := hv
  exact ⟨v, vs', e, h1, _, vs2, e2, ⟨by simp, .inl ⟨trivial, none, 0, rfl⟩⟩, h2⟩
end Go.Eng
namespace Go.Rect
open Go.Eng
def orB : Bool → Bool → Bool := fun x y => (x || y)
def andB : Bool → Bool → Bool := fun x y => (x && y)
def notB : Bool → Bool → Bool := fun x y => (x && !y)
def hasR (a : List Rc) (p : Pt) : Bool := (els a).any fun r => hasB r p
theorem any_1 {α : Type} {l : List α} {k : Nat} {f : α → Bool} (d : α) (h : (k : Int) < (l.length : Int)) (hc : f (l.getD k d) = true) : true = l.any f := by
  symm; rw [List.any_eq_true]
  have hk : k < l.length := by omega
  refine ⟨l[k], List.getElem_mem hk, ?_⟩
  rwa [List.getD_eq_getElem?_getD, List.getElem?_eq_getElem hk] at hc
theorem any_2 {α : Type} {l : List α} {k : Nat} {f : α → Bool} (d : α) (h : (l.length : Int) ≤ (k : Int)) (hI : ∀ j, j < k → f (l.getD j d) = false) : false = l.any f := by
  symm; rw [List.any_eq_false]
  intro x hx
  obtain ⟨j, hj, rfl⟩ := List.getElem_of_mem hx
  have := hI j (by omega)
  rw [List.getD_eq_getElem?_getD, List.getElem?_eq_getElem hj] at this
  simpa using this
def arK (l : List Rc) : Nat → Int
  | 0 => 0
  | k + 1 => IntKind.i64.wrap (arK l k + areaI (l.getD k zR))
def areaL (l : List Rc) : Int := arK l l.length
def boxK (l : List Rc) : Nat → Rc
  | 0 => zR
  | k + 1 => joinR (boxK l k) (l.getD k zR)
def boxL (l : List Rc) : Rc := boxK l l.length
def growL (n : Int) (l : List Rc) : List Rc := l.map fun r => growR r n
def grK (n : Int) (l : List Rc) (k : Nat) : List Rc := (l.take k).map (fun r => growR r n) ++ l.drop k
theorem grK_0 (n : Int) (l : List Rc) : grK n l 0 = l := by simp [grK]
theorem grK_all {n : Int} {l : List Rc} {k : Nat} (h : (l.length : Int) ≤ (k : Int)) : grK n l k = growL n l := by
  rw [grK, take_all h, List.drop_of_length_le (by omega), List.append_nil]; rfl
theorem grK_len {n : Int} {l : List Rc} {k : Nat} (h : k ≤ l.length) : (grK n l k).length = l.length := by simp [grK]; omega
theorem grK_at {n : Int} {l : List Rc} {k : Nat} (h : (k : Int) < (l.length : Int)) : (grK n l k).getD k zR = l.getD k zR := by
  rw [grK, List.getD_eq_getElem?_getD, List.getElem?_append_right (by simp; omega)]
  simp only [List.length_map, List.length_take]
  rw [List.getElem?_drop, List.getD_eq_getElem?_getD]
  congr 2; omega
theorem grK_s {n : Int} {l : List Rc} {k : Nat} (h : (k : Int) < (l.length : Int)) : ((grK n l k).map rcC).set k (rcC (growR (l.getD k zR) n)) = (grK n l (k + 1)).map rcC := by
  have hk : k < l.length := by omega
  rw [← List.map_set]
  congr 1
  rw [grK, List.set_append_right _ _ (by simp; omega), grK, take_s zR hk, List.map_append, List.drop_eq_getElem_cons hk]
  simp only [List.length_map, List.length_take, Nat.min_eq_left (Nat.le_of_lt hk), Nat.sub_self, List.set_cons_zero, List.map_cons, List.map_nil, List.append_assoc, List.cons_append, List.nil_append]
theorem valid_ne {r : Rc} : (validB r && !emptyB r) = !emptyB r := by
  unfold emptyB; cases validB r <;> simp
theorem tkM_at {a : List Rc} {k : Nat} (h : (k : Int) < 256) : (tkM a).getD k zR = a.getD k zR := by
  rw [tkM, List.getD_eq_getElem?_getD, List.getElem?_take, if_pos (by omega), List.getD_eq_getElem?_getD]
theorem tkM_lt {a : List Rc} {k : Nat} (h : (k : Int) < (a.length : Int) ∧ (k : Int) < 256) : (k : Int) < ((tkM a).length : Int) := by
  rw [tkM, List.length_take]; omega
theorem tkM_ge {a : List Rc} {k : Nat} (h : (decide ((k : Int) < (a.length : Int)) && decide ((k : Int) < 256)) = false) : ((tkM a).length : Int) ≤ (k : Int) := by
  rw [tkM, List.length_take]
  simp only [Bool.and_eq_false_iff, decide_eq_false_iff_not] at h
  omega
def insH (how : Int) (a b : List Rc) (x y : Int) : Bool := if how = 0 then (inLb a x y || inLb b x y) else if how = 1 then (inLb a x y && inLb b x y) else (inLb a x y && !inLb b x y)
def kpH (how : Int) : Bool → Bool → Bool := if how = 0 then orB else if how = 1 then andB else notB
theorem insH_kp (how : Int) (a b : List Rc) (x y : Int) : insH how a b x y = kpH how (inLb a x y) (inLb b x y) := by
  unfold insH kpH; (repeat' split) <;> rfl
theorem kpH_ff (how : Int) : kpH how false false = false := by unfold kpH; (repeat' split) <;> rfl
theorem inLb_1 {l : List Rc} {k : Nat} {x y : Int} (h : (k : Int) < (l.length : Int)) (hc : hasI (l.getD k zR) x y) : true = inLb l x y := any_1 zR h (by simpa using hc)
theorem inLb_2 {l : List Rc} {k : Nat} {x y : Int} (h : (l.length : Int) ≤ (k : Int)) (hI : ∀ j, j < k → ¬ hasI (l.getD j zR) x y) : false = inLb l x y := any_2 zR h (fun j hj => by simpa using hI j hj)
theorem plY {a : List Rc} {k : Nat} (h : (k : Int) < (a.length : Int) ∧ (k : Int) < 256) (hc : validB (a.getD k zR) = true ∧ emptyB (a.getD k zR) = false) : pl (tkM a) (k + 1) = pl (tkM a) k ++ [a.getD k zR] := by
  rw [pl_n (tkM_lt h) (by rw [tkM_at h.2]; exact hc.2), tkM_at h.2]
theorem plN {a : List Rc} {k : Nat} (h : (k : Int) < (a.length : Int) ∧ (k : Int) < 256) (hc : (validB (a.getD k zR) && !emptyB (a.getD k zR)) = false) : pl (tkM a) (k + 1) = pl (tkM a) k := by
  rw [pl_y (tkM_lt h) (by rw [tkM_at h.2]; rw [valid_ne] at hc; simpa using hc)]
theorem tkG (n : Int) (l : List Rc) : List.take l.length (List.map rcC (growL n l)) = (growL n l).map rcC := List.take_of_length_le (by simp [growL])
theorem growL_len (n : Int) (l : List Rc) : (growL n l).length = l.length := by simp [growL]
end Go.Rect

set_option linter.unusedSimpArgs false
set_option linter.unusedVariables false
namespace Go.Eng
open Go.RowKit Go.Proofs Go.Sort Go.Rect
section
variable {α : Type} [Inhabited α]
theorem holds_blk {enc : α → Value} {w : World} {g : Nat} {cur : Array Value} {e : TypeId} {ss : List α} (hb : w.heap[g]? = some (.cells cur e (0, 0))) (ht : cur.toList.take ss.length = ss.map enc) : Holds enc w g 0 ss.toArray := by
  intro j hj
  have hj' : j < ss.length := by simpa using hj
  refine ⟨?_, by simp [World.frozen?, hb]⟩
  have h1 : (cur.toList.take ss.length)[j]? = (ss.map enc)[j]? := by rw [ht]
  rw [List.getElem?_take_of_lt hj'] at h1
  simp only [World.cell?, hb, Nat.zero_add]
  simp only [Option.isSome_none, Bool.false_eq_true, if_false]
  rw [← Array.getElem?_toList, h1]
  simp [hj']
theorem heap_srt {enc : α → Value} {w : World} {g n : Nat} {os : Array Obj} {cur : Array Value} {e : TypeId} {fr : Nat × Nat} (d : Array α) (hb : w.heap[g]? = some (.cells cur e fr)) :
    (grow (putRow enc (Sort.ahead w n) g 0 d) os).heap[g]? = some (.cells (putCells enc 0 d cur) e fr) := by
  have hg : g < w.heap.size := (Array.getElem?_eq_some_iff.1 hb).1
  rw [heap_grow_old _ _ (by simpa using hg)]
  simp [putRow, mapBlock, Sort.ahead, Array.getElem?_modify, hb, onCells]
theorem grown_srt {enc : α → Value} {w : World} {g n : Nat} {os : Array Obj} (d : Array α) : w.grownBy (grow (putRow enc (Sort.ahead w n) g 0 d) os) (some g) := by
  refine ⟨rfl, rfl, rfl, by simp, fun k hk hne => ?_⟩
  rw [heap_grow_old _ _ (by simpa using hk)]
  have : g ≠ k := fun e => hne (by rw [e])
  simp [putRow, mapBlock, Sort.ahead, Array.getElem?_modify, this]
theorem take_put {enc : α → Value} (cur : Array Value) (ts : List α) (h : ts.length ≤ cur.size) : (putCells enc 0 ts.toArray cur).toList.take ts.length = ts.map enc := by
  apply List.ext_getElem?
  intro j
  by_cases hj : j < ts.length
  · rw [List.getElem?_take_of_lt hj, Array.getElem?_toList]
    simp [putCells, hj, show j < cur.size by omega]
  · rw [List.getElem?_take_eq_none (by omega), List.getElem?_eq_none (by simp; omega)]
theorem flat_at {enc : α → List Value} (hk : ∀ x, (enc x).length = 2) : ∀ (l : List α) (t : Nat), t < l.length * 2 → (l.flatMap enc)[t]? = some ((enc (l.toArray)[t / 2]!)[t % 2]!)
  | [], t, h => by simp at h
  | a :: l, t, h => by
    have h2 := hk a
    obtain ⟨u, v, e⟩ : ∃ u v, enc a = [u, v] := by
      match enc a, h2 with
      | [u, v], _ => exact ⟨u, v, rfl⟩
    rw [List.flatMap_cons, e]
    match t, h with
    | 0, _ => simp [e]
    | 1, _ => simp [e]
    | t + 2, h =>
      have h' : t < l.length * 2 := by simp only [List.length_cons] at h; omega
      have e2 : (t + 2) / 2 = t / 2 + 1 := by omega
      have e3 : (t + 2) % 2 = t % 2 := by omega
      have ih := flat_at hk l t h'
      rw [e2, e3]
      have hs : t / 2 < l.length := by omega
      simp only [List.cons_append, List.nil_append, List.getElem?_cons_succ]
      rw [ih]
      congr 2
      simp [hs]
theorem flatK_l {enc : α → List Value} (hk : ∀ x, (enc x).length = 2) (l : List α) : flatK enc 2 l.toArray = (l.flatMap enc).toArray := by
  have hlen : (l.flatMap enc).length = l.length * 2 := by
    induction l with
    | nil => rfl
    | cons a l ih => rw [List.flatMap_cons, List.length_append, ih, hk, List.length_cons]; omega
  apply Array.ext (by simp [hlen])
  intro i h1 h2
  have hi : i < l.length * 2 := by simpa using h1
  have := flat_at hk l i hi
  have h3 : (l.flatMap enc).toArray[i]? = some ((enc (l.toArray)[i / 2]!)[i % 2]!) := by simpa using this
  have h4 : (flatK enc 2 l.toArray)[i]! = (enc (l.toArray)[i / 2]!)[i % 2]! := get_flatK enc 2 l.toArray i (by simpa using hi)
  rw [Array.getElem?_eq_getElem h2, Option.some.injEq] at h3
  rw [h3, ← h4]
  exact (getElem!_pos (flatK enc 2 l.toArray) i h1).symm
theorem srt2_fx {P : Program} {F g T : Nat} {f : α → List D} {enc : α → List Value} (hf : ∀ (ok : Nat → Prop) (w : World) (x : α) (vs : List Value), RepDs ok w (f x) vs ↔ vs = enc x) (hk : ∀ x, (enc x).length = 2) {S : List α → List α} (hS : ∀ l, (S l).length = l.length)
    (H : ∀ (l : List α) (b cap : Nat) (w : World), HoldsK enc 2 w b 0 l.toArray → b < w.heap.size → l.length < 4611686018427387904 → Calls P F #[.slice (some ⟨b, 0, none⟩) l.length cap, .func (.func g) #[] #[]] w fun e w' => e = .returned (.tuple #[]) ∧ ∃ n os, w' = sortWorldK enc 2 w b 0 n (S l).toArray os)
    (H0 : ∀ (p : Option Addr) (cap : Nat) (w : World), Calls P F #[.slice p 0 cap, .func (.func g) #[] #[]] w fun e w' => e = .returned (.tuple #[]) ∧ w' = w) (l : List α) :
    Eng.FnX P F [.mu (.arr T 2 (l.map f)) (.arr T 2 ((S l).map f)) 0 l.length 2, .ro (.dat (.v (.func (.func g) #[] #[])))] (.tup []) := by
  have dss : ∀ {ok : Nat → Prop} {w : World} {l : List α} {vs : List Value}, RepDss ok w 2 (l.map f) vs ↔ vs = l.flatMap enc := by
    intro ok w l
    induction l with
    | nil => intro vs; simp [RepDss]
    | cons a l ih =>
      intro vs
      simp only [List.map_cons, RepDss, List.flatMap_cons]
      constructor
      · rintro ⟨v1, v2, rfl, hl, h1, h2⟩
        rw [(hf _ _ _ _).1 h1, ih.1 h2]
      · rintro rfl
        exact ⟨enc a, l.flatMap enc, rfl, hk a, (hf _ _ _ _).2 rfl, ih.2 rfl⟩
  have flen : ∀ l : List α, (l.flatMap enc).length = l.length * 2 := fun l => by
    induction l with
    | nil => rfl
    | cons a l ih => rw [List.flatMap_cons, List.length_append, ih, hk, List.length_cons]; omega
  intro w vs ι hent hinj hargs
  simp only [RepX, PX.av, RepA, RepD, Nat.add_zero] at hargs
  obtain ⟨v, vs', e1, hv, v2, vs2, e2, hv2, e3⟩ := hargs
  subst e3 hv2 e2
  have hg0 : geth (hpI 0 [PX.mu (.arr T 2 (l.map f)) (.arr T 2 ((S l).map f)) 0 l.length 2, .ro (.dat (.v (.func (.func g) #[] #[])))]) 30000 = some (true, .arr T 2 (l.map f)) := by simp [hpI, geth]
  have E := hent 30000 _ hg0
  have evs : vs = #[v, .func (.func g) #[] #[]] := by apply Array.toList_inj.1; simpa using e1
  have fin0 : l = [] → (Calls P F vs w fun e w' => e = .returned (.tuple #[]) ∧ w' = w) := by
    rintro rfl
    rw [evs]
    rcases hv with ⟨_, g2, _, _⟩ | ⟨b', c', _, g2, _⟩
    · rw [g2]; exact H0 none 0 w
    · rw [g2]; exact H0 _ _ w
  by_cases hl : l = []
  · refine (fin0 hl).mono ?_
    rintro e w' ⟨rfl, rfl⟩
    have hSl : S l = [] := List.eq_nil_of_length_eq_zero (by rw [hS, hl]; rfl)
    refine ⟨.tuple #[], rfl, ⟨rfl, rfl, rfl, Nat.le_refl _⟩, fun _ _ => rfl, fun nm x hx => ?_, ?_⟩
    · rw [hSl] at hx
      have hx' : geth (hpI 0 [PX.mu (.arr T 2 (l.map f)) (.arr T 2 ((S l).map f)) 0 l.length 2, .ro (.dat (.v (.func (.func g) #[] #[])))]) nm = some (true, x) := by
        rw [hl]; simpa only [hpI, hpO, List.map_nil] using hx
      have := hent nm x hx'
      simp only [hpI, geth] at hx'
      cases hn : 30000 + 0 == nm
      · rw [hn] at hx'; cases hx'
      · rw [hn, cond_true] at hx'
        simp only [Option.some.injEq, Prod.mk.injEq, true_and] at hx'
        subst hx'
        subst hl
        rcases this with h | ⟨b, cap, cur, h1, h2, h3, h4, h5, h6, h7⟩
        · exact .inl h
        · exact .inr ⟨b, cap, cur, h1, trivial, h3, h4, h5, h6, by simp [RepDss]⟩
    · simp only [RepR, RepRs]
      exact ⟨[], rfl, rfl, trivial⟩
  · have hl0 : 0 < l.length := List.length_pos_iff.2 hl
    rcases E with ⟨_, h2⟩ | ⟨b, cap, cur, h1, h2, h3, h4, h5, h6, h7⟩
    · simp at h2; exact absurd h2 hl
    simp only [List.length_map] at h4 h5 h6 h7
    have h7' := dss.1 h7
    have hv' : v = .slice (some ⟨b, 0, none⟩) l.length cap := by
      rcases hv with ⟨g1, _, _, g4⟩ | ⟨b', c', g1, g2, g3⟩
      · omega
      · rw [h1] at g1; simp only [Option.some.injEq, Prod.mk.injEq] at g1
        obtain ⟨rfl, rfl⟩ := g1
        simpa using g2
    rw [evs, hv']
    have hH : HoldsK enc 2 w b 0 l.toArray := by
      unfold HoldsK
      rw [flatK_l hk]
      exact holds_blk h3 (by rw [flen, h7', List.map_id])
    refine (H l b cap w hH (Array.getElem?_eq_some_iff.1 h3).1 (by omega)).mono ?_
    rintro e w' ⟨rfl, n, os, rfl⟩
    have hw : sortWorldK enc 2 w b 0 n (S l).toArray os = grow (putRow id (Sort.ahead w n) b 0 ((S l).flatMap enc).toArray) os := by
      unfold sortWorldK putRowK
      rw [flatK_l hk]
    rw [hw]
    obtain ⟨g1, g2, g3, g4, g5⟩ := grown_srt (enc := id) (w := w) (g := b) (n := n) (os := os) ((S l).flatMap enc).toArray
    have hb := heap_srt (enc := id) (w := w) (g := b) (n := n) (os := os) ((S l).flatMap enc).toArray h3
    refine ⟨.tuple #[], rfl, ⟨g1, g2, g3, g4⟩, fun b' hb' => ?_, fun nm x hx => ?_, ?_⟩
    · refine g5 b' hb'.1 fun e => ?_
      simp only [Option.some.injEq] at e
      subst e
      exact hb'.2.1 30000 _ cap hg0 h1
    · simp only [hpO, geth] at hx
      cases hn : 30000 + 0 == nm
      · rw [hn] at hx; cases hx
      · rw [hn, cond_true] at hx
        simp only [beq_iff_eq] at hn; subst hn
        simp only [Option.some.injEq, Prod.mk.injEq, true_and] at hx
        subst hx
        refine .inr ⟨b, cap, _, h1, trivial, hb, ?_, ?_, ⟨h6.1, ?_⟩, ?_⟩
        · simp [Sort.putCells, h4]
        · simp [hS]; exact h5
        · simp [hS]; exact h6.2
        · simp only [List.length_map]
          refine dss.2 ?_
          have ht := take_put (enc := id) cur ((S l).flatMap enc) (by rw [flen, hS, h4]; exact Nat.mul_le_mul_right 2 h5)
          rw [flen, List.map_id] at ht
          exact ht
    · simp only [RepR, RepRs]
      exact ⟨[], rfl, rfl, trivial⟩
end
end Go.Eng
namespace Go.Rect
open Go.Eng Go.Sort Go.Proofs Go.Shelf
instance : Inhabited Rw := ⟨zN⟩
theorem cmpI_neg {a b : Int} : cmpI a b < 0 ↔ a < b := by
  unfold cmpI; (repeat' split) <;> omega
theorem cmpI_zero {a b : Int} : cmpI a b = 0 ↔ a = b := by
  unfold cmpI; (repeat' split) <;> omega
theorem cmpRw_neg {p q : Rw} : cmpRw p q < 0 ↔ p.lo < q.lo ∨ (p.lo = q.lo ∧ p.hi < q.hi) := by
  unfold cmpRw; split
  · rename_i h; rw [cmpI_zero] at h; rw [cmpI_neg]; omega
  · rename_i h; rw [cmpI_zero] at h; rw [cmpI_neg]; omega
theorem cmpPt_neg {p q : Pt} : cmpPt p q < 0 ↔ p.y < q.y ∨ (p.y = q.y ∧ p.x < q.x) := by
  unfold cmpPt; split
  · rename_i h; rw [cmpI_zero] at h; rw [cmpI_neg]; omega
  · rename_i h; rw [cmpI_zero] at h; rw [cmpI_neg]; omega
theorem swoRw : SWO (ltOf cmpRw) where
  irrefl x := by simp only [ltOf, decide_eq_false_iff_not, cmpRw_neg]; omega
  trans x y z h1 h2 := by simp only [ltOf, decide_eq_true_eq, cmpRw_neg] at *; omega
  ntrans x y z h1 h2 := by simp only [ltOf, decide_eq_false_iff_not, cmpRw_neg] at *; omega
theorem swoPt : SWO (ltOf cmpPt) where
  irrefl x := by simp only [ltOf, decide_eq_false_iff_not, cmpPt_neg]; omega
  trans x y z h1 h2 := by simp only [ltOf, decide_eq_true_eq, cmpPt_neg] at *; omega
  ntrans x y z h1 h2 := by simp only [ltOf, decide_eq_false_iff_not, cmpPt_neg] at *; omega
theorem totRw (x y : Rw) (h1 : (ltOf cmpRw) x y = false) (h2 : (ltOf cmpRw) y x = false) : x = y := by
  simp only [ltOf, decide_eq_false_iff_not, cmpRw_neg] at h1 h2
  exact rw_ext ⟨by omega, by omega⟩
theorem totPt (x y : Pt) (h1 : (ltOf cmpPt) x y = false) (h2 : (ltOf cmpPt) y x = false) : x = y := by
  simp only [ltOf, decide_eq_false_iff_not, cmpPt_neg] at h1 h2
  exact Pt.ext' ⟨by omega, by omega⟩
theorem predRw : (fun x y => !(ltOf cmpRw) y x) = leR := by
  funext p q
  rw [Bool.eq_iff_iff]
  simp only [ltOf, leR, Bool.not_eq_true', decide_eq_false_iff_not, cmpRw_neg, Bool.or_eq_true, Bool.and_eq_true, decide_eq_true_eq]
  omega
theorem predPt : (fun x y => !(ltOf cmpPt) y x) = fun p q : Pt => decide (p.y < q.y) || (decide (p.y = q.y) && decide (p.x ≤ q.x)) := by
  funext p q
  rw [Bool.eq_iff_iff]
  simp only [ltOf, Bool.not_eq_true', decide_eq_false_iff_not, cmpPt_neg, Bool.or_eq_true, Bool.and_eq_true, decide_eq_true_eq]
  omega
theorem srtPt_len (l : List Pt) : (srtPt l).length = l.length := by simp [srtPt]
end Go.Rect

set_option linter.unusedSimpArgs false
set_option linter.unusedVariables false
namespace Go.Rect
open Go.Eng
def ptE (p : Pt) : List Int × D := ([p.x, p.y], .b true)
theorem ptE_inj {p q : Pt} (h : ptE p = ptE q) : p = q := by
  simp only [ptE, Prod.mk.injEq, List.cons.injEq, and_true] at h
  exact Pt.ext' h
def insP (F : List Pt) (p : Pt) : List Pt := if p ∈ F then F else F ++ [p]
theorem upd_ins : ∀ (F : List Pt) (p : Pt), updL [p.x, p.y] (.b true) (F.map ptE) = (insP F p).map ptE
  | [], p => rfl
  | q :: F, p => by
    have ih := upd_ins F p
    simp only [List.map_cons, updL]
    by_cases h : q = p
    · subst h
      rw [if_pos (by rfl), insP, if_pos (by simp)]; rfl
    · have h1 : ¬ (ptE q).1 = [p.x, p.y] := fun e => h (by
        simp only [ptE, List.cons.injEq, and_true] at e
        exact Pt.ext' e)
      rw [if_neg h1, ih, insP, insP]
      by_cases hp : p ∈ F
      · rw [if_pos hp, if_pos (by simp [hp])]; rfl
      · rw [if_neg hp, if_neg (by simp [hp]; exact fun e => h e.symm)]; rfl
def inpK (F : List Pt) (l : List Pt) (k : Nat) : List Pt := (l.take k).foldl insP F
theorem inpK_s {F l : List Pt} {k : Nat} (h : (k : Int) < (l.length : Int)) : inpK F l (k + 1) = insP (inpK F l k) (l.getD k ⟨0, 0⟩) := by
  rw [inpK, take_s ⟨0, 0⟩ (by omega), List.foldl_append]; rfl
def ftK (l : List Rc) : Nat → List Pt
  | 0 => []
  | k + 1 => (tilesL (l.getD k zR)).foldl insP (ftK l k)
theorem inpK_all {l : List Rc} {k j : Nat} (h : ((tilesL (l.getD k zR)).length : Int) ≤ (j : Int)) : inpK (ftK l k) (tilesL (l.getD k zR)) j = ftK l (k + 1) := by
  rw [inpK, take_all h]; rfl
def badT (l : List Rc) (k : Nat) : Bool := decide ((tilesL (l.getD k zR)).length = 0) || decide (4096 < (ftK l (k + 1)).length)
def tilesF (a : List Rc) : List Pt := if (List.range (els a).length).any (badT (els a)) then [] else srtPt (ftK (els a) (els a).length)
theorem tf_bad {a : List Rc} {k : Nat} (hk : (k : Int) < ((els a).length : Int)) (h : badT (els a) k = true) : tilesF a = [] := by
  rw [tilesF, if_pos]
  rw [List.any_eq_true]
  exact ⟨k, by simp; omega, h⟩
theorem tf_ok {a : List Rc} {k : Nat} (hk : ((els a).length : Int) ≤ (k : Int)) (hI : k ≤ (els a).length) (h : ∀ j, j < k → badT (els a) j = false) : tilesF a = srtPt (ftK (els a) k) := by
  have e : k = (els a).length := by omega
  subst e
  rw [tilesF, if_neg]
  intro hh
  rw [List.any_eq_true] at hh
  obtain ⟨j, hj, hb⟩ := hh
  rw [h j (by simpa using hj)] at hb; cases hb
theorem bad_1 {l : List Rc} {k : Nat} (h : ((tilesL (l.getD k zR)).length : Int) = 0) : badT l k = true := by
  rw [badT, decide_eq_true (by omega)]; rfl
theorem bad_2 {l : List Rc} {k : Nat} (h : 4096 < ((ftK l (k + 1)).length : Int)) : badT l k = true := by
  rw [badT, decide_eq_true (p := 4096 < (ftK l (k + 1)).length) (by omega), Bool.or_true]
theorem bad_0 {l : List Rc} {k : Nat} (h1 : ¬ ((tilesL (l.getD k zR)).length : Int) = 0) (h2 : ((ftK l (k + 1)).length : Int) ≤ 4096) : badT l k = false := by
  rw [badT, decide_eq_false (by omega), decide_eq_false (by omega)]; rfl
theorem ft_le {l : List Rc} {k : Nat} (h : ∀ j, j < k → badT l j = false) : (ftK l k).length ≤ 4096 := by
  cases k with
  | zero => simp [ftK]
  | succ k =>
    have := h k (by omega)
    simp only [badT, Bool.or_eq_false_iff, decide_eq_false_iff_not] at this
    omega
theorem exP {F : List Pt} {p : List Int × D} (h : p ∈ F.map ptE) : ∃ y, ptE y = p := by
  obtain ⟨y, _, e⟩ := List.mem_map.1 h
  exact ⟨y, e⟩
theorem at_E {L : List Pt} {j : Nat} {y : Pt} (h : (L.map ptE)[j]? = some (ptE y)) : L[j]? = some y := by
  rw [List.getElem?_map] at h
  cases hl : L[j]? with
  | none => rw [hl] at h; cases h
  | some z => rw [hl, Option.map_some, Option.some.injEq] at h; rw [ptE_inj h]
theorem er_E (L : List Pt) (j : Nat) : (L.map ptE).eraseIdx j = (L.eraseIdx j).map ptE := by
  induction L generalizing j with
  | nil => rfl
  | cons a l ih => cases j <;> simp [ih]
theorem perm_er {L O F : List Pt} {j : Nat} {y : Pt} (hp : (O ++ L).Perm F) (h : L[j]? = some y) : (O ++ [y] ++ L.eraseIdx j).Perm F := by
  refine List.Perm.trans ?_ hp
  rw [List.append_assoc]
  refine List.Perm.append_left O ?_
  clear hp
  induction L generalizing j with
  | nil => simp at h
  | cons a l ih =>
    cases j with
    | zero => simp at h; subst h; simp
    | succ j =>
      have := ih (j := j) (by simpa using h)
      simp only [List.eraseIdx_cons_succ, List.cons_append, List.nil_append] at this ⊢
      exact (List.Perm.swap _ _ _).trans (this.cons a)
theorem er_len {L : List Pt} {j : Nat} {y : Pt} (h : L[j]? = some y) : (L.eraseIdx j).length < L.length := by
  have hj := (List.getElem?_eq_some_iff.1 h).1
  rw [List.length_eraseIdx_of_lt hj]; omega
theorem srt_perm {a b : List Pt} (h : a.Perm b) : srtPt a = srtPt b := by
  have tr : ∀ x y z : Pt, (decide (x.y < y.y) || (decide (x.y = y.y) && decide (x.x ≤ y.x))) = true → (decide (y.y < z.y) || (decide (y.y = z.y) && decide (y.x ≤ z.x))) = true → (decide (x.y < z.y) || (decide (x.y = z.y) && decide (x.x ≤ z.x))) = true := fun x y z h1 h2 => by
    simp only [Bool.or_eq_true, Bool.and_eq_true, decide_eq_true_eq] at *; omega
  have to : ∀ x y : Pt, ((decide (x.y < y.y) || (decide (x.y = y.y) && decide (x.x ≤ y.x))) || (decide (y.y < x.y) || (decide (y.y = x.y) && decide (y.x ≤ x.x)))) = true := fun x y => by
    simp only [Bool.or_eq_true, Bool.and_eq_true, decide_eq_true_eq]; omega
  refine List.Perm.eq_of_pairwise (le := fun x y => (decide (x.y < y.y) || (decide (x.y = y.y) && decide (x.x ≤ y.x))) = true) (fun x y _ _ h1 h2 => ?_) (List.pairwise_mergeSort tr to a) (List.pairwise_mergeSort tr to b) ((List.mergeSort_perm a _).trans (h.trans (List.mergeSort_perm b _).symm))
  simp only [Bool.or_eq_true, Bool.and_eq_true, decide_eq_true_eq] at h1 h2
  exact Pt.ext' ⟨by omega, by omega⟩
theorem ptE1 (p : Pt) : (ptE p).1 = [p.x, p.y] := rfl
theorem ptE2 (p : Pt) : (ptE p).2 = .b true := rfl
theorem tf_fin {a : List Rc} {k : Nat} {O L : List Pt} (hP : (O ++ L).Perm (ftK (els a) k)) (hE : L.map ptE = []) (hc : ((els a).length : Int) ≤ (k : Int)) (hI : k ≤ (els a).length ∧ ∀ j, j < k → badT (els a) j = false) :
    O.length = (srtPt O).length ∧ (srtPt O).map ptC = (tilesF a).map ptC := by
  have hL : L = [] := by simpa using hE
  subst hL
  rw [List.append_nil] at hP
  rw [srtPt_len, tf_ok hc hI.1 hI.2, srt_perm hP]
  exact ⟨rfl, rfl⟩
end Go.Rect

set_option linter.unusedSimpArgs false
set_option linter.unusedVariables false
namespace Go.Rect
open Go.Eng
def ltN : List Int → Int → Nat
  | [], _ => 0
  | a :: l, v => if a < v then ltN l v + 1 else 0
theorem lt_le : ∀ (O : List Int) (v : Int), ltN O v ≤ O.length
  | [], _ => Nat.le_refl _
  | a :: l, v => by
    rw [ltN]; split
    · have := lt_le l v; simp only [List.length_cons]; omega
    · exact Nat.zero_le _
theorem lt_lt : ∀ {O : List Int} {v : Int} {i : Nat}, i < ltN O v → O.getD i 0 < v
  | [], v, i, h => by simp [ltN] at h
  | a :: l, v, i, h => by
    rw [ltN] at h
    by_cases h1 : a < v
    · rw [if_pos h1] at h
      cases i with
      | zero => exact h1
      | succ i => rw [List.getD_cons_succ]; exact lt_lt (by omega)
    · rw [if_neg h1] at h; omega
theorem lt_ge : ∀ {O : List Int} {v : Int}, ltN O v < O.length → v ≤ O.getD (ltN O v) 0
  | [], v, h => by simp at h
  | a :: l, v, h => by
    rw [ltN] at h ⊢
    by_cases h1 : a < v
    · rw [if_pos h1] at h ⊢
      rw [List.getD_cons_succ]; exact lt_ge (by simp only [List.length_cons] at h; omega)
    · rw [if_neg h1, List.getD_cons_zero]; omega
theorem lt_s {O : List Int} {v : Int} {j : Nat} (hj : j ≤ ltN O v) (hc : (j : Int) < (O.length : Int) ∧ O.getD j 0 < v) : j + 1 ≤ ltN O v := by
  rcases Nat.lt_or_eq_of_le hj with h | h
  · exact h
  · subst h
    have := lt_ge (O := O) (v := v) (by omega)
    omega
theorem lt_eq {O : List Int} {v : Int} {j : Nat} (hj : j ≤ ltN O v) (hc : (decide ((j : Int) < (O.length : Int)) && decide (O.getD j 0 < v)) = false) : j = ltN O v := by
  rcases Nat.lt_or_eq_of_le hj with h | h
  · have h1 := lt_lt h
    have h2 := lt_le O v
    rw [decide_eq_true (show (j : Int) < (O.length : Int) by omega), decide_eq_true h1] at hc; cases hc
  · exact h
theorem ins_y : ∀ {O : List Int} {v : Int}, ltN O v < O.length → O.getD (ltN O v) 0 = v → insU v O = O
  | [], v, h, _ => by simp at h
  | a :: l, v, h, hc => by
    rw [ltN] at h hc
    rw [insU]
    by_cases h1 : a < v
    · rw [if_pos h1] at h hc
      rw [if_pos h1]
      rw [List.getD_cons_succ] at hc
      rw [ins_y (by simp only [List.length_cons] at h; omega) hc]
    · rw [if_neg h1] at hc
      rw [List.getD_cons_zero] at hc
      rw [if_neg h1, if_pos hc]
def shA (O : List Int) (m : Nat) (c : Int) : List Int := O.take m ++ c :: O.drop m
theorem ins_n : ∀ {O : List Int} {v : Int}, ¬ (ltN O v < O.length ∧ O.getD (ltN O v) 0 = v) → insU v O = shA O (ltN O v) v
  | [], v, _ => rfl
  | a :: l, v, hc => by
    rw [insU, ltN]
    rw [ltN] at hc
    by_cases h1 : a < v
    · rw [if_pos h1, if_pos h1]
      rw [if_pos h1] at hc
      rw [List.getD_cons_succ] at hc
      rw [ins_n (O := l) (v := v) (fun h => hc ⟨by simp only [List.length_cons]; omega, h.2⟩)]
      rfl
    · rw [if_neg h1, if_neg h1]
      rw [if_neg h1] at hc
      rw [if_neg (fun e => hc ⟨by simp, by simpa using e⟩)]
      rfl
theorem shA_len {O : List Int} {m : Nat} {c : Int} (h : m ≤ O.length) : (shA O m c).length = O.length + 1 := by simp [shA]; omega
theorem sh_0 (O : List Int) : O ++ [0] = shA O O.length 0 := by simp [shA]
theorem sh_at {O : List Int} {m : Nat} {c : Int} (h0 : 0 < m) (h : m ≤ O.length) : (shA O m c).getD (m - 1) 0 = O.getD (m - 1) 0 := by
  rw [shA, List.getD_eq_getElem?_getD, List.getElem?_append_left (by simp; omega), List.getElem?_take, if_pos (by omega), List.getD_eq_getElem?_getD]
theorem sh_s {O : List Int} {m : Nat} {c : Int} (h0 : 0 < m) (h : m ≤ O.length) : (shA O m c).set m (O.getD (m - 1) 0) = shA O (m - 1) (O.getD (m - 1) 0) := by
  have h1 : m - 1 < O.length := by omega
  have h2 : O.take m = O.take (m - 1) ++ [O.getD (m - 1) 0] := by
    have := take_s (k := m - 1) (l := O) 0 h1
    rwa [Nat.sub_add_cancel h0] at this
  have h3 : O.drop (m - 1) = O.getD (m - 1) 0 :: O.drop m := by
    rw [List.drop_eq_getElem_cons h1, Nat.sub_add_cancel h0, List.getD_eq_getElem?_getD, List.getElem?_eq_getElem h1]; rfl
  rw [shA, shA, List.set_append_right _ _ (by simp; omega), h3]
  simp only [List.length_take, Nat.min_eq_left h, Nat.sub_self, List.set_cons_zero]
  rw [h2, List.append_assoc]; rfl
theorem sh_end {O : List Int} {m : Nat} {c v : Int} (h : m ≤ O.length) : (shA O m c).set m v = shA O m v := by
  rw [shA, List.set_append_right _ _ (by simp; omega)]
  simp only [List.length_take, Nat.min_eq_left h, Nat.sub_self, List.set_cons_zero]; rfl
theorem srtU_app : ∀ (l m st : List Int), srtU st (l ++ m) = srtU (srtU st l) m
  | [], m, st => rfl
  | a :: l, m, st => by simp only [List.cons_append, srtU]; exact srtU_app l m _
def suK (l : List Int) (k : Nat) : List Int := srtU [] (l.take k)
theorem su_s {l : List Int} {k : Nat} (h : (k : Int) < (l.length : Int)) : suK l (k + 1) = insU (l.getD k 0) (suK l k) := by
  rw [suK, take_s 0 (by omega), srtU_app]; rfl
theorem insU_len : ∀ (O : List Int) (v : Int), (insU v O).length ≤ O.length + 1
  | [], v => Nat.le_refl _
  | a :: l, v => by
    have := insU_len l v
    rw [insU]; (repeat' split) <;> simp only [List.length_cons] <;> omega
theorem srtU_len : ∀ (l st : List Int), (srtU st l).length ≤ st.length + l.length
  | [], st => Nat.le_refl _
  | a :: l, st => by
    have := srtU_len l (insU a st)
    have := insU_len st a
    simp only [srtU, List.length_cons]; omega
theorem su_len (l : List Int) (k : Nat) : (suK l k).length ≤ k := by
  have := srtU_len (l.take k) []
  rw [List.length_take] at this
  simp only [List.length_nil] at this
  rw [suK]; omega
theorem su_all {l : List Int} {k : Nat} (h : (l.length : Int) ≤ (k : Int)) : suK l k = srtU [] l := by rw [suK, take_all h]
section
variable {l : List Int} {k m : Nat} {c : Int}
theorem suA (h : (k : Int) < (l.length : Int)) (hc : (ltN (suK l k) (l.getD k 0) : Int) < ((suK l k).length : Int) ∧ (suK l k).getD (ltN (suK l k) (l.getD k 0)) 0 = l.getD k 0) : suK l (k + 1) = suK l k := by
  rw [su_s h, ins_y (by omega) hc.2]
theorem suB (h : (k : Int) < (l.length : Int)) (hc : (decide ((ltN (suK l k) (l.getD k 0) : Int) < ((suK l k).length : Int)) && ((suK l k).getD (ltN (suK l k) (l.getD k 0)) 0 == l.getD k 0)) = false) (hm : m = ltN (suK l k) (l.getD k 0)) :
    (shA (suK l k) m c).set m (l.getD k 0) = suK l (k + 1) ∧ (suK l k).length + 1 = (suK l (k + 1)).length := by
  have h1 := lt_le (suK l k) (l.getD k 0)
  have e : suK l (k + 1) = shA (suK l k) m (l.getD k 0) := by
    rw [su_s h, hm]
    refine ins_n fun hh => ?_
    rw [decide_eq_true (by omega), hh.2] at hc
    simp at hc
  rw [e]
  exact ⟨sh_end (by omega), (shA_len (by omega)).symm⟩
end
theorem cast_ps (n : Nat) : ((n + 1 : Nat) : Int) - 1 = (n : Int) := by omega
theorem sh_m {O : List Int} {m : Nat} {c : Int} (h0 : 0 < m) (h : m ≤ O.length) : (shA O m c).set m ((shA O m c).getD (m - 1) 0) = shA O (m - 1) (O.getD (m - 1) 0) := by
  rw [sh_at h0 h, sh_s h0 h]
theorem suBm {l : List Int} {k m : Nat} {c : Int} (h : (k : Int) < (l.length : Int)) (hc : (decide ((ltN (suK l k) (l.getD k 0) : Int) < ((suK l k).length : Int)) && ((suK l k).getD (ltN (suK l k) (l.getD k 0)) 0 == l.getD k 0)) = false) (h1 : ltN (suK l k) (l.getD k 0) ≤ m) (h2 : (m : Int) ≤ (ltN (suK l k) (l.getD k 0) : Int)) :
    ((shA (suK l k) m c).set (ltN (suK l k) (l.getD k 0)) (l.getD k 0)).map iC = (suK l (k + 1)).map iC := by
  have e : m = ltN (suK l k) (l.getD k 0) := by omega
  subst e
  rw [(suB h hc rfl).1]
end Go.Rect

set_option linter.unusedSimpArgs false
set_option linter.unusedVariables false
namespace Go.Rect
open Go.Eng
def edX2 (a b : List Rc) (m : Nat) : List Int := edX a ++ edX (b.take m)
theorem edX2_0 {a b : List Rc} {k : Nat} (h : (a.length : Int) ≤ (k : Int)) : edX (a.take k) = edX2 a b 0 := by rw [take_all h]; simp [edX2, edX]
theorem edX2_s {a b : List Rc} {m : Nat} (h : (m : Int) < (b.length : Int)) : edX2 a b (m + 1) = edX2 a b m ++ [(b.getD m zR).x, (b.getD m zR).x + (b.getD m zR).w] := by rw [edX2, edX_s (by omega), ← List.append_assoc]; rfl
theorem edX2_len (a b : List Rc) (m : Nat) : (edX2 a b m).length ≤ 2 * a.length + 2 * b.length := by rw [edX2, List.length_append, edX_len, edX_len, List.length_take]; omega
def bX (a b : List Rc) : List Int := srtU [] (edX a ++ edX b)
def bY (a b : List Rc) : List Int := srtU [] (edY a ++ edY b)
theorem edX2_all {a b : List Rc} {m : Nat} (h : (b.length : Int) ≤ (m : Int)) : srtU [] (edX2 a b m) = bX a b := by rw [edX2, take_all h]; rfl
theorem edY2_allU {a b : List Rc} {m : Nat} (h : (b.length : Int) ≤ (m : Int)) : srtU [] (edY2 a b m) = bY a b := by rw [edY2, take_all h]; rfl
def insX (how : Int) (a b : List Rc) (y : Int) : Int → Bool := fun x => insH how a b x y
def bRow (how : Int) (a b : List Rc) (y : Int) : List Rw := runC (insX how a b y) [] (bX a b)
def bldF (how : Int) (a b : List Rc) : List Rc := flatB (canL (bRow how a b) [] (bY a b))
theorem ys_of {l : List Int} (h : ∀ y ∈ l, -1048576 ≤ y ∧ y ≤ 1048576) : Ys (srtU [] l) := by
  have hs := srtU_spec (l := l) (st := []) trivial
  refine ⟨hs.1, fun y hy => ?_⟩
  rcases (hs.2 y).1 hy with h1 | h1
  · cases h1
  · exact h y h1
theorem edY_bd {l : List Rc} (hw : Wd l) : ∀ y ∈ edY l, -1048576 ≤ y ∧ y ≤ 1048576 := by
  induction l with
  | nil => intro y h; cases h
  | cons r l ih =>
    intro y h
    have hr := empty_spec.1 (hw r (by simp))
    simp only [edY, List.mem_cons] at h
    rcases h with rfl | rfl | h
    · omega
    · omega
    · exact ih (fun q hq => hw q (by simp [hq])) y h
theorem edX_bd {l : List Rc} (hw : Wd l) : ∀ y ∈ edX l, -1048576 ≤ y ∧ y ≤ 1048576 := by
  induction l with
  | nil => intro y h; cases h
  | cons r l ih =>
    intro y h
    have hr := empty_spec.1 (hw r (by simp))
    simp only [edX, List.mem_cons] at h
    rcases h with rfl | rfl | h
    · omega
    · omega
    · exact ih (fun q hq => hw q (by simp [hq])) y h
theorem bX_ys {a b : List Rc} (ha : Wd a) (hb : Wd b) : Ys (bX a b) := ys_of fun y hy => (List.mem_append.1 hy).elim (edX_bd ha y) (edX_bd hb y)
theorem bY_ys {a b : List Rc} (ha : Wd a) (hb : Wd b) : Ys (bY a b) := ys_of fun y hy => (List.mem_append.1 hy).elim (edY_bd ha y) (edY_bd hb y)
theorem bX_len {a b : List Rc} (la : a.length ≤ 256) (lb : b.length ≤ 256) : (bX a b).length ≤ 1024 := by
  have := srtU_len (edX a ++ edX b) []
  rw [List.length_append, edX_len, edX_len] at this
  simp only [List.length_nil] at this
  rw [bX]; omega
theorem bY_len {a b : List Rc} (la : a.length ≤ 256) (lb : b.length ≤ 256) : (bY a b).length ≤ 1024 := by
  have := srtU_len (edY a ++ edY b) []
  rw [List.length_append, edY_len, edY_len] at this
  simp only [List.length_nil] at this
  rw [bY]; omega
theorem rnK_ok {g : Int → Bool} {xs : List Int} (hx : Ys xs) : ∀ (k : Nat), k < xs.length → RwOk (rnK g xs k) ∧ ∀ c, (rnK g xs k).getLast? = some c → c.hi ≤ xs.getD k 0
  | 0, _ => ⟨(fun p hp => by cases hp), fun c hc => by simp [rnK] at hc⟩
  | k + 1, h => by
    obtain ⟨h1, h2⟩ := rnK_ok hx k (by omega)
    have h3 := asc_at hx.asc h
    have h4 := hx.at (k := k) (by omega)
    have h5 := hx.at (k := k + 1) h
    rw [rnK]
    cases hg : g (xs.getD k 0)
    · rw [rs_c]
      exact ⟨h1, fun c hc => by have := h2 c hc; omega⟩
    · by_cases hc : 0 < (rnK g xs k).length ∧ ((rnK g xs k).getD ((rnK g xs k).length - 1) zN).hi = xs.getD k 0
      · rw [rs_a hc.1 hc.2, set_last hc.1]
        have hm : (rnK g xs k).getD ((rnK g xs k).length - 1) zN ∈ rnK g xs k := by
          rw [List.getD_eq_getElem?_getD, List.getElem?_eq_getElem (by omega)]; exact List.getElem_mem _
        have hl := h1 _ hm
        refine ⟨fun p hp => ?_, fun c hc' => ?_⟩
        · rcases List.mem_append.1 hp with hp | hp
          · exact h1 p ((List.dropLast_sublist _).subset hp)
          · rw [List.mem_singleton] at hp; subst hp; simp only; omega
        · simp at hc'; subst hc'; simp
      · rw [rs_b hc]
        refine ⟨fun p hp => ?_, fun c hc' => ?_⟩
        · rcases List.mem_append.1 hp with hp | hp
          · exact h1 p hp
          · rw [List.mem_singleton] at hp; subst hp; simp only; omega
        · simp at hc'; subst hc'; simp
theorem bRow_ok {how : Int} {a b : List Rc} (ha : Wd a) (hb : Wd b) (la : a.length ≤ 256) (lb : b.length ≤ 256) (y : Int) : RwOk (bRow how a b y) ∧ (bRow how a b y).length ≤ 1024 := by
  have hx := bX_ys ha hb
  have hl := bX_len la lb
  rw [bRow, ← rnK_all]
  have h4 := rnK_len (insX how a b y) (bX a b) ((bX a b).length - 1)
  refine ⟨?_, by omega⟩
  by_cases h : (bX a b).length = 0
  · rw [h]; intro p hp; cases hp
  · exact (rnK_ok hx _ (by omega)).1
def outB (st : List Bd) : List Rc := flatB st.dropLast
theorem out_last (st : List Bd) : outB st ++ lastB st = flatB st := by
  rcases List.eq_nil_or_concat st with rfl | ⟨l, c, rfl⟩
  · rfl
  · rw [List.concat_eq_append, outB, List.dropLast_concat, last_c, flat_app, flat_one]
theorem out_len (st : List Bd) : (outB st).length + (lastB st).length = (flatB st).length := by rw [← out_last, List.length_append]
def akB (a b : List Rc) : Bool := decide (a.length = b.length ∧ ∀ j, j < a.length → (a.getD j zR).x = (b.getD j zR).x ∧ (a.getD j zR).w = (b.getD j zR).w)
theorem rn_at {rs : List Rw} {y h : Int} {j : Nat} (hj : j < rs.length) : (rs.map (rnR y h)).getD j zR = rnR y h (rs.getD j zN) := by simp [List.getD_eq_getElem?_getD, List.getElem?_eq_getElem hj]
theorem ak_map (r1 r2 : List Rw) (y1 h1 y2 h2 : Int) : akB (r1.map (rnR y1 h1)) (r2.map (rnR y2 h2)) = decide (r1 = r2) := by
  rw [akB, decide_eq_decide, List.length_map, List.length_map]
  constructor
  · rintro ⟨e, h⟩
    refine List.ext_getElem e fun j hj hj2 => ?_
    have := h j hj
    rw [rn_at hj, rn_at hj2] at this
    simp only [rnR, List.getD_eq_getElem?_getD, List.getElem?_eq_getElem hj, List.getElem?_eq_getElem hj2, Option.getD_some] at this
    exact rw_ext ⟨this.1, by omega⟩
  · rintro rfl
    refine ⟨rfl, fun j hj => ?_⟩
    rw [rn_at hj, rn_at hj]
    exact ⟨rfl, rfl⟩
section
variable {f : Int → List Rw} {ys : List Int} {k i : Nat} {n : Nat}
def bcB (st : List Bd) (rs : List Rc) (y : Int) : Bool := (decide (0 < ((lastB st).length : Int)) && (((lastB st).getD 0 zR).y + ((lastB st).getD 0 zR).h == y)) && akB (lastB st) rs
theorem bc_y {st : List Bd} {rs : List Rw} {y h h' : Int} (h0 : rs ≠ []) (hne : ∀ c ∈ st, c.rs ≠ []) (hg : bcB st (rs.map (rnR y h)) y = true) : ∃ l c, st = l ++ [c] ∧ c.y + c.h = y ∧ c.rs = rs ∧ cstep st y h' rs = l ++ [⟨c.y, c.h + h', rs⟩] := by
  rcases List.eq_nil_or_concat st with rfl | ⟨l, c, rfl⟩
  · simp [bcB, lastB, flatB] at hg
  · rw [List.concat_eq_append] at *
    have hc0 := List.length_pos_iff.2 (hne c (by simp))
    rw [bcB, last_c, ak_map, rn_at hc0] at hg
    simp only [Bool.and_eq_true, decide_eq_true_eq, beq_iff_eq, rnR] at hg
    refine ⟨l, c, rfl, hg.1.2, hg.2, ?_⟩
    rw [cstep, if_neg h0]
    simp only [List.getLast?_append, List.getLast?_singleton, Option.some_or, List.dropLast_concat]
    rw [if_pos ⟨hg.1.2, hg.2⟩]
theorem bc_n {st : List Bd} {rs : List Rw} {y h h' : Int} (h0 : rs ≠ []) (hne : ∀ c ∈ st, c.rs ≠ []) (hg : bcB st (rs.map (rnR y h)) y = false) : cstep st y h' rs = st ++ [⟨y, h', rs⟩] := by
  rcases List.eq_nil_or_concat st with rfl | ⟨l, c, rfl⟩
  · rw [cstep, if_neg h0]; rfl
  · rw [List.concat_eq_append] at *
    have hc0 := List.length_pos_iff.2 (hne c (by simp))
    rw [bcB, last_c, ak_map, rn_at hc0] at hg
    rw [cstep, if_neg h0]
    simp only [List.getLast?_append, List.getLast?_singleton, Option.some_or, List.dropLast_concat]
    rw [if_neg]
    rintro ⟨h1, h2⟩
    rw [decide_eq_true h2, decide_eq_true (by rw [List.length_map]; omega)] at hg
    simp [rnR, h1] at hg
def bhK (L : List Rc) (Y : Int) (i : Nat) : List Rc := (L.take i).map (fun r : Rc => { r with h := Y - r.y }) ++ L.drop i
theorem bh_0 (L : List Rc) (Y : Int) : bhK L Y 0 = L := by simp [bhK]
theorem bh_len {L : List Rc} {Y : Int} {i : Nat} (h : i ≤ L.length) : (bhK L Y i).length = L.length := by simp [bhK]; omega
theorem bh_at {L : List Rc} {Y : Int} {i : Nat} (h : i < L.length) : (bhK L Y i).getD i zR = L.getD i zR := by
  rw [bhK, List.getD_eq_getElem?_getD, List.getElem?_append_right (by simp; omega)]
  simp only [List.length_map, List.length_take]
  rw [List.getElem?_drop, List.getD_eq_getElem?_getD]
  congr 2; omega
theorem bh_s {L : List Rc} {Y : Int} {i : Nat} (h : (i : Int) < (L.length : Int)) : ((bhK L Y i).map rcC).set i [.i (L.getD i zR).x, .i (L.getD i zR).y, .i (L.getD i zR).w, .i (Y - (L.getD i zR).y)] = (bhK L Y (i + 1)).map rcC := by
  have hi : i < L.length := by omega
  have e : [D.i (L.getD i zR).x, .i (L.getD i zR).y, .i (L.getD i zR).w, .i (Y - (L.getD i zR).y)] = rcC { L.getD i zR with h := Y - (L.getD i zR).y } := rfl
  rw [e, ← List.map_set]
  congr 1
  rw [bhK, List.set_append_right _ _ (by simp; omega), bhK, take_s zR hi, List.map_append, List.drop_eq_getElem_cons hi]
  simp only [List.length_map, List.length_take, Nat.min_eq_left (Nat.le_of_lt hi), Nat.sub_self, List.set_cons_zero, List.map_cons, List.map_nil, List.append_assoc, List.cons_append, List.nil_append]
theorem bk_0 (h0 : ((f (ys.getD k 0)).length : Int) = 0) : canK f ys (k + 1) = canK f ys k := ck_0 h0
theorem bk_y {hh : Int} (h0 : ¬ ((f (ys.getD k 0)).length : Int) = 0) (hne : ∀ c ∈ canK f ys k, c.rs ≠ []) (hg : bcB (canK f ys k) ((f (ys.getD k 0)).map (rnR (ys.getD k 0) hh)) (ys.getD k 0) = true) (hi : ((lastB (canK f ys k)).length : Int) ≤ (i : Int)) (hj : i ≤ (lastB (canK f ys k)).length) :
    bhK (lastB (canK f ys k)) (ys.getD (k + 1) 0) i = lastB (canK f ys (k + 1)) ∧ outB (canK f ys (k + 1)) = outB (canK f ys k) ∧ (lastB (canK f ys (k + 1))).length = (lastB (canK f ys k)).length := by
  obtain ⟨l, c, e1, e2, e3, e4⟩ := bc_y (h' := ys.getD (k + 1) 0 - ys.getD k 0) (ck_ne h0) hne hg
  rw [canK, e4, e1, outB, outB, List.dropLast_concat, List.dropLast_concat, last_c, last_c]
  rw [e1, last_c, List.length_map] at hi hj
  simp only
  refine ⟨?_, trivial, by rw [List.length_map, List.length_map, e3]⟩
  rw [bhK, List.take_of_length_le (by rw [List.length_map]; omega), List.drop_of_length_le (by rw [List.length_map]; omega), List.append_nil, List.map_map, e3]
  refine List.map_congr_left fun p _ => ?_
  simp only [Function.comp, rnR, Rc.mk.injEq, true_and]
  omega
theorem bk_n {hh : Int} (h0 : ¬ ((f (ys.getD k 0)).length : Int) = 0) (hne : ∀ c ∈ canK f ys k, c.rs ≠ []) (hg : bcB (canK f ys k) ((f (ys.getD k 0)).map (rnR (ys.getD k 0) hh)) (ys.getD k 0) = false) :
    outB (canK f ys k) ++ lastB (canK f ys k) = outB (canK f ys (k + 1)) ∧ lastB (canK f ys (k + 1)) = (f (ys.getD k 0)).map (rnR (ys.getD k 0) (ys.getD (k + 1) 0 - ys.getD k 0)) := by
  rw [canK, bc_n (ck_ne h0) hne hg, out_last, outB, List.dropLast_concat, last_c]
  exact ⟨rfl, rfl⟩
end
theorem ak_1 {a b : List Rc} (h : ¬ (a.length : Int) = (b.length : Int)) : false = akB a b := by
  symm; rw [akB, decide_eq_false_iff_not]; exact fun e => h (by omega)
theorem ak_2 {a b : List Rc} {k : Nat} (hk : (k : Int) < (a.length : Int)) (h : (decide ((a.getD k zR).x = (b.getD k zR).x) && decide ((a.getD k zR).w = (b.getD k zR).w)) = false) : false = akB a b := by
  symm; rw [akB, decide_eq_false_iff_not]
  intro e
  have := e.2 k (by omega)
  rw [decide_eq_true this.1, decide_eq_true this.2] at h; cases h
theorem ak_2o {a b : List Rc} {k : Nat} (hk : (k : Int) < (a.length : Int)) (h : ¬ (a.getD k zR).x = (b.getD k zR).x ∨ ¬ (a.getD k zR).w = (b.getD k zR).w) : false = akB a b := by
  symm; rw [akB, decide_eq_false_iff_not]
  intro e
  have := e.2 k (by omega)
  omega
theorem ak_3 {a b : List Rc} {k : Nat} (hl : (a.length : Int) = (b.length : Int)) (hI : ∀ j, j < k → (a.getD j zR).x = (b.getD j zR).x ∧ (a.getD j zR).w = (b.getD j zR).w) (hk : (a.length : Int) ≤ (k : Int)) : true = akB a b := by
  symm; rw [akB, decide_eq_true_eq]; exact ⟨by omega, fun j hj => hI j (by omega)⟩
end Go.Rect

set_option linter.unusedSimpArgs false
set_option linter.unusedVariables false
namespace Go.Rect
open Go.Eng
theorem gD_mem {α : Type} {l : List α} {k : Nat} {d : α} (h : k < l.length) : l.getD k d ∈ l := by
  rw [List.getD_eq_getElem?_getD, List.getElem?_eq_getElem h]; exact List.getElem_mem h
def rrK (how : Int) (a b : List Rc) (j i : Nat) : List Rc := (rnK (insX how a b ((bY a b).getD j 0)) (bX a b) i).map (rnR ((bY a b).getD j 0) ((bY a b).getD (j + 1) 0 - (bY a b).getD j 0))
def oB (how : Int) (a b : List Rc) (j : Nat) : List Rc := outB (canK (bRow how a b) (bY a b) j)
def lB (how : Int) (a b : List Rc) (j : Nat) : List Rc := lastB (canK (bRow how a b) (bY a b) j)
section
variable {how : Int} {a b : List Rc} {i j q : Nat}
theorem oB_0 : oB how a b 0 = [] := rfl
theorem lB_0 : lB how a b 0 = [] := rfl
theorem rr_len : (rrK how a b j i).length ≤ i := by rw [rrK, List.length_map]; exact rnK_len _ _ _
theorem rr_bd (ha : Wd a) (hb : Wd b) (hi : i < (bX a b).length) (k : Nat) : -1048576 ≤ ((rrK how a b j i).getD k zR).x ∧ 0 ≤ ((rrK how a b j i).getD k zR).w ∧ ((rrK how a b j i).getD k zR).x + ((rrK how a b j i).getD k zR).w ≤ 1048576 := by
  have h1 := (rnK_ok (g := insX how a b ((bY a b).getD j 0)) (bX_ys ha hb) i hi).1
  by_cases hk : k < (rnK (insX how a b ((bY a b).getD j 0)) (bX a b) i).length
  · rw [rrK, rn_at hk]
    have := h1 _ (gD_mem (d := zN) hk)
    simp only [rnR]; omega
  · rw [rrK, List.getD_eq_getElem?_getD, List.getElem?_eq_none (by rw [List.length_map]; omega)]
    simp [zR]
theorem bOk (ha : Wd a) (hb : Wd b) (la : a.length ≤ 256) (lb : b.length ≤ 256) (hj : j < (bY a b).length) : BdOk' (canK (bRow how a b) (bY a b) j) ((bY a b).getD j 0) (j * 1024) :=
  canK_ok (f := bRow how a b) (fun y => bRow_ok ha hb la lb y) (bY_ys ha hb) j hj
theorem lB_bd (ha : Wd a) (hb : Wd b) (la : a.length ≤ 256) (lb : b.length ≤ 256) (hj : j < (bY a b).length) (k : Nat) :
    -1048576 ≤ ((lB how a b j).getD k zR).y ∧ 0 ≤ ((lB how a b j).getD k zR).h ∧ ((lB how a b j).getD k zR).y + ((lB how a b j).getD k zR).h ≤ 1048576 := by
  have hw := lastB_wd (bOk (how := how) ha hb la lb hj).wd
  by_cases hk : k < (lB how a b j).length
  · have := wd_at (k := k) hw (by unfold lB at hk; omega)
    unfold lB; omega
  · rw [List.getD_eq_getElem?_getD, List.getElem?_eq_none (by omega)]
    simp [zR]
theorem ol_len (ha : Wd a) (hb : Wd b) (la : a.length ≤ 256) (lb : b.length ≤ 256) (hj : j < (bY a b).length) : (oB how a b j).length + (lB how a b j).length ≤ 1048576 := by
  have h1 := (bOk (how := how) ha hb la lb hj).le
  have h2 := out_len (canK (bRow how a b) (bY a b) j)
  have h3 := bY_len la lb
  unfold oB lB; omega
theorem rr_c (hg : insH how a b ((bX a b).getD i 0) ((bY a b).getD j 0) = false) : rrK how a b j i = rrK how a b j (i + 1) := by
  rw [rrK, rrK, rnK, show insX how a b ((bY a b).getD j 0) ((bX a b).getD i 0) = false from hg, rs_c]
theorem rr_a (hg : insH how a b ((bX a b).getD i 0) ((bY a b).getD j 0) = true) (hc : 0 < ((rrK how a b j i).length : Int) ∧ ((rrK how a b j i).getD ((rrK how a b j i).length - 1) zR).x + ((rrK how a b j i).getD ((rrK how a b j i).length - 1) zR).w = (bX a b).getD i 0) :
    ((rrK how a b j i).map rcC).set ((rrK how a b j i).length - 1) [.i ((rrK how a b j i).getD ((rrK how a b j i).length - 1) zR).x, .i ((rrK how a b j i).getD ((rrK how a b j i).length - 1) zR).y, .i ((bX a b).getD (i + 1) 0 - ((rrK how a b j i).getD ((rrK how a b j i).length - 1) zR).x), .i ((rrK how a b j i).getD ((rrK how a b j i).length - 1) zR).h] = (rrK how a b j (i + 1)).map rcC ∧ (rrK how a b j i).length = (rrK how a b j (i + 1)).length := by
  obtain ⟨h0, hc⟩ := hc
  have hl : (rrK how a b j i).length = (rnK (insX how a b ((bY a b).getD j 0)) (bX a b) i).length := by rw [rrK, List.length_map]
  have h1 : 0 < (rnK (insX how a b ((bY a b).getD j 0)) (bX a b) i).length := by omega
  rw [hl] at hc ⊢
  have e : (rrK how a b j i).getD ((rnK (insX how a b ((bY a b).getD j 0)) (bX a b) i).length - 1) zR = rnR ((bY a b).getD j 0) ((bY a b).getD (j + 1) 0 - (bY a b).getD j 0) ((rnK (insX how a b ((bY a b).getD j 0)) (bX a b) i).getD ((rnK (insX how a b ((bY a b).getD j 0)) (bX a b) i).length - 1) zN) := rn_at (by omega)
  rw [e] at hc ⊢
  simp only [rnR] at hc ⊢
  have e2 : rrK how a b j (i + 1) = ((rnK (insX how a b ((bY a b).getD j 0)) (bX a b) i).set ((rnK (insX how a b ((bY a b).getD j 0)) (bX a b) i).length - 1) ⟨((rnK (insX how a b ((bY a b).getD j 0)) (bX a b) i).getD ((rnK (insX how a b ((bY a b).getD j 0)) (bX a b) i).length - 1) zN).lo, (bX a b).getD (i + 1) 0⟩).map (rnR ((bY a b).getD j 0) ((bY a b).getD (j + 1) 0 - (bY a b).getD j 0)) := by
    rw [rrK, rnK, show insX how a b ((bY a b).getD j 0) ((bX a b).getD i 0) = true from hg, rs_a h1 (by omega)]
  rw [e2]
  refine ⟨?_, by rw [List.length_map, List.length_set]⟩
  rw [List.map_set, List.map_set, rrK]
  rfl
theorem rr_b (hg : insH how a b ((bX a b).getD i 0) ((bY a b).getD j 0) = true) (hc : ¬ (0 < ((rrK how a b j i).length : Int) ∧ ((rrK how a b j i).getD ((rrK how a b j i).length - 1) zR).x + ((rrK how a b j i).getD ((rrK how a b j i).length - 1) zR).w = (bX a b).getD i 0)) :
    (rrK how a b j i).map rcC ++ [[.i ((bX a b).getD i 0), .i ((bY a b).getD j 0), .i ((bX a b).getD (i + 1) 0 - (bX a b).getD i 0), .i ((bY a b).getD (j + 1) 0 - (bY a b).getD j 0)]] = (rrK how a b j (i + 1)).map rcC ∧ (rrK how a b j i).length + 1 = (rrK how a b j (i + 1)).length := by
  have e2 : rrK how a b j (i + 1) = rrK how a b j i ++ [rnR ((bY a b).getD j 0) ((bY a b).getD (j + 1) 0 - (bY a b).getD j 0) ⟨(bX a b).getD i 0, (bX a b).getD (i + 1) 0⟩] := by
    rw [rrK, rnK, show insX how a b ((bY a b).getD j 0) ((bX a b).getD i 0) = true from hg, rs_b, List.map_append]
    · rfl
    · rintro ⟨h0, h1⟩
      refine hc ?_
      have hl : (rrK how a b j i).length = (rnK (insX how a b ((bY a b).getD j 0)) (bX a b) i).length := by rw [rrK, List.length_map]
      rw [hl, rrK, rn_at (by omega)]
      simp only [rnR]
      omega
  rw [e2, List.map_append, List.length_append]
  exact ⟨rfl, rfl⟩
theorem rr_all (hI : i ≤ (bX a b).length - 1) (hc : ((bX a b).length : Int) ≤ (i : Int) + 1) : rrK how a b j i = (bRow how a b ((bY a b).getD j 0)).map (rnR ((bY a b).getD j 0) ((bY a b).getD (j + 1) 0 - (bY a b).getD j 0)) := by
  rw [rrK, gk_all hI hc]; rfl
theorem lb_0 (hI : i ≤ (bX a b).length - 1) (hx : ((bX a b).length : Int) ≤ (i : Int) + 1) (hc : ((rrK how a b j i).length : Int) = 0) : oB how a b j = oB how a b (j + 1) ∧ lB how a b j = lB how a b (j + 1) := by
  rw [rr_all hI hx, List.length_map] at hc
  rw [oB, lB, oB, lB, bk_0 hc]; exact ⟨rfl, rfl⟩
def bcR (how : Int) (a b : List Rc) (j i : Nat) : Prop := (0 < ((lB how a b j).length : Int) ∧ ((lB how a b j).getD 0 zR).y + ((lB how a b j).getD 0 zR).h = (bY a b).getD j 0) ∧ akB (lB how a b j) (rrK how a b j i) = true
theorem bcR_f (h : (decide (0 < ((lB how a b j).length : Int)) && ((lB how a b j).getD 0 zR).y + ((lB how a b j).getD 0 zR).h == (bY a b).getD j 0 && akB (lB how a b j) (rrK how a b j i)) = false) : ¬ bcR how a b j i := by
  rintro ⟨⟨h1, h2⟩, h3⟩
  rw [decide_eq_true h1, h2, h3] at h
  simp at h
theorem bcR_B (hI : i ≤ (bX a b).length - 1) (hx : ((bX a b).length : Int) ≤ (i : Int) + 1) : (bcB (canK (bRow how a b) (bY a b) j) ((bRow how a b ((bY a b).getD j 0)).map (rnR ((bY a b).getD j 0) ((bY a b).getD (j + 1) 0 - (bY a b).getD j 0))) ((bY a b).getD j 0) = true) ↔ bcR how a b j i := by
  rw [← rr_all hI hx, bcB, bcR]
  simp only [Bool.and_eq_true, decide_eq_true_eq, beq_iff_eq, lB]
theorem lb_y (ha : Wd a) (hb : Wd b) (la : a.length ≤ 256) (lb : b.length ≤ 256) (hj : j < (bY a b).length) (hI : i ≤ (bX a b).length - 1) (hx : ((bX a b).length : Int) ≤ (i : Int) + 1) (h0 : ¬ ((rrK how a b j i).length : Int) = 0) (hc : bcR how a b j i)
    (hq : q ≤ (lB how a b j).length) (hq' : ((lB how a b j).length : Int) ≤ (q : Int)) : bhK (lB how a b j) ((bY a b).getD (j + 1) 0) q = lB how a b (j + 1) ∧ oB how a b j = oB how a b (j + 1) ∧ (lB how a b j).length = (lB how a b (j + 1)).length := by
  have h0' := h0
  rw [rr_all hI hx, List.length_map] at h0'
  have := bk_y (f := bRow how a b) (ys := bY a b) h0' (bOk (how := how) ha hb la lb hj).ne ((bcR_B hI hx).2 hc) hq' hq
  exact ⟨this.1, this.2.1.symm, this.2.2.symm⟩
theorem lb_n (ha : Wd a) (hb : Wd b) (la : a.length ≤ 256) (lb : b.length ≤ 256) (hj : j < (bY a b).length) (hI : i ≤ (bX a b).length - 1) (hx : ((bX a b).length : Int) ≤ (i : Int) + 1) (h0 : ¬ ((rrK how a b j i).length : Int) = 0) (hc : ¬ bcR how a b j i) :
    oB how a b j ++ lB how a b j = oB how a b (j + 1) ∧ rrK how a b j i = lB how a b (j + 1) := by
  have h0' := h0
  rw [rr_all hI hx, List.length_map] at h0'
  have := bk_n (f := bRow how a b) (ys := bY a b) (hh := (bY a b).getD (j + 1) 0 - (bY a b).getD j 0) h0' (bOk (how := how) ha hb la lb hj).ne (by
    rw [← Bool.not_eq_true]; exact fun e => hc ((bcR_B hI hx).1 e))
  refine ⟨this.1, ?_⟩
  rw [rr_all hI hx, lB, this.2]
theorem wadd {k : Nat} (h : (k : Int) + 1 ≤ 1048576) : IntKind.i64.wrap ((k : Int) + 1) = ((k + 1 : Nat) : Int) := w64l (n := 1048576) (by omega) (by omega)
theorem olX (ha : Wd a) (hb : Wd b) (la : a.length ≤ 256) (lb : b.length ≤ 256) (hj : j ≤ (bY a b).length - 1) : (oB how a b j).length + (lB how a b j).length ≤ 1048576 := by
  by_cases h : j < (bY a b).length
  · exact ol_len ha hb la lb h
  · have : j = 0 := by omega
    subst this; simp [oB_0, lB_0]
theorem lb_all (hI : j ≤ (bY a b).length - 1) (hx : ((bY a b).length : Int) ≤ (j : Int) + 1) : oB how a b j ++ lB how a b j = bldF how a b := by
  rw [oB, lB, out_last, bldF, ← canK_all, show j = (bY a b).length - 1 from by omega]
end
end Go.Rect

set_option linter.unusedSimpArgs false
set_option linter.unusedVariables false
namespace Go.Rect
open Go.Eng
theorem snocInd {α : Type} {motive : List α → Prop} (nil : motive []) (snoc : ∀ l a, motive l → motive (l ++ [a])) (l : List α) : motive l := by
  have h : ∀ m : List α, motive m.reverse := by
    intro m
    induction m with
    | nil => exact nil
    | cons a m ih => rw [List.reverse_cons]; exact snoc _ _ ih
  have := h l.reverse
  rwa [List.reverse_reverse] at this
def rwR (r : Rc) : Rw := ⟨r.x, r.x + r.w⟩
def joinC (d : List Bd) (c : Bd) : Bool := match d.getLast? with
  | none => false
  | some p => decide (p.y + p.h = c.y ∧ p.rs = c.rs)
def lastHi (l : List Rw) : Int := (l.getD (l.length - 1) zN).hi
def pst (s : List Bd × Option Bd) (r : Rc) : Option (List Bd × Option Bd) := match s.2 with
  | none => some (s.1, some ⟨r.y, r.h, [rwR r]⟩)
  | some c => if r.y = c.y ∧ r.h = c.h then (if r.x ≤ lastHi c.rs then none else some (s.1, some ⟨c.y, c.h, c.rs ++ [rwR r]⟩))
    else if r.y < c.y + c.h ∨ joinC s.1 c = true then none else some (s.1 ++ [c], some ⟨r.y, r.h, [rwR r]⟩)
def pfold (l : List Rc) : Option (List Bd × Option Bd) := l.foldl (fun o r => o.bind (pst · r)) (some ([], none))
def finB : Option (List Bd × Option Bd) → Bool
  | none => false
  | some (_, none) => true
  | some (d, some c) => !joinC d c
def rightB (a : List Rc) : Bool := a.all (fun r => !emptyB r) && finB (pfold a)
theorem pf_app (l : List Rc) (r : Rc) : pfold (l ++ [r]) = (pfold l).bind (pst · r) := by simp [pfold]
theorem pf_none : ∀ (m : List Rc) (l : List Rc), pfold l = none → pfold (l ++ m) = none
  | [], l, h => by simpa using h
  | r :: m, l, h => by
    have := pf_none m (l ++ [r]) (by rw [pf_app, h]; rfl)
    simpa using this
theorem pf_take {a : List Rc} {i : Nat} (h : pfold (a.take i) = none) : pfold a = none := by
  have := pf_none (a.drop i) _ h
  rwa [List.take_append_drop] at this
theorem pf_s {a : List Rc} {i : Nat} (h : i < a.length) : pfold (a.take (i + 1)) = (pfold (a.take i)).bind (pst · (a.getD i zR)) := by
  rw [take_s zR h, pf_app]
theorem lastHi_c (l : List Rw) (p : Rw) : lastHi (l ++ [p]) = p.hi := by simp [lastHi]
theorem rn_rw {r : Rc} {y h : Int} (h1 : r.y = y) (h2 : r.h = h) : rnR y h (rwR r) = r := by
  subst h1 h2
  simp only [rnR, rwR]
  rw [show r.x + r.w - r.x = r.w from by omega]
structure PfOk (l : List Rc) (d : List Bd) (o : Option Bd) : Prop where
  fl : flatB (d ++ o.toList) = l
  ne : ∀ c ∈ d ++ o.toList, c.rs ≠ []
  no : o = none → d = []
theorem pf_ok : ∀ {l : List Rc} {d : List Bd} {o : Option Bd}, pfold l = some (d, o) → PfOk l d o := by
  intro l
  induction l using snocInd with
  | nil =>
    intro d o h
    simp only [pfold, List.foldl_nil, Option.some.injEq, Prod.mk.injEq] at h
    obtain ⟨rfl, rfl⟩ := h
    exact ⟨rfl, fun c hc => by simp at hc, fun _ => rfl⟩
  | snoc l r ih =>
    intro d o h
    rw [pf_app] at h
    cases hp : pfold l with
    | none => rw [hp] at h; cases h
    | some s =>
      obtain ⟨d0, o0⟩ := s
      rw [hp] at h
      obtain ⟨e1, e2, e3⟩ := ih hp
      simp only [Option.bind_some, pst] at h
      cases o0 with
      | none =>
        simp only [Option.some.injEq, Prod.mk.injEq] at h
        obtain ⟨rfl, rfl⟩ := h
        have := e3 rfl; subst this
        simp only [Option.toList, List.append_nil, flatB, List.flatMap_nil] at e1
        subst e1
        refine ⟨?_, fun c hc => ?_, fun h => by cases h⟩
        · simp only [Option.toList, List.nil_append, flat_one, List.map_cons, List.map_nil]
          rw [rn_rw rfl rfl]
        · simp only [Option.toList, List.nil_append, List.mem_singleton] at hc
          subst hc; simp
      | some c =>
        simp only [Option.toList] at e1 e2
        simp only at h
        split at h
        · rename_i hq
          split at h
          · cases h
          · simp only [Option.some.injEq, Prod.mk.injEq] at h
            obtain ⟨rfl, rfl⟩ := h
            refine ⟨?_, fun c' hc => ?_, fun h => by cases h⟩
            · simp only [Option.toList]
              rw [flat_app, flat_one] at e1 ⊢
              simp only [List.map_append, List.map_cons, List.map_nil]
              rw [rn_rw hq.1 hq.2, ← List.append_assoc, e1]
            · simp only [Option.toList, List.mem_append, List.mem_singleton] at hc
              rcases hc with hc | rfl
              · exact e2 c' (by simp [hc])
              · simp
        · split at h
          · cases h
          · simp only [Option.some.injEq, Prod.mk.injEq] at h
            obtain ⟨rfl, rfl⟩ := h
            refine ⟨?_, fun c' hc => ?_, fun h => by cases h⟩
            · simp only [Option.toList]
              rw [flat_app, e1, flat_one]
              simp only [List.map_cons, List.map_nil]
              rw [rn_rw rfl rfl]
            · simp only [Option.toList, List.mem_append, List.mem_singleton] at hc
              rcases hc with (hc | rfl) | rfl
              · exact e2 c' (by simp [hc])
              · exact e2 c' (by simp)
              · simp
theorem all_wd {a : List Rc} : a.all (fun r => !emptyB r) = true ↔ Wd a := by
  simp only [List.all_eq_true, Bool.not_eq_true', Wd]
end Go.Rect

