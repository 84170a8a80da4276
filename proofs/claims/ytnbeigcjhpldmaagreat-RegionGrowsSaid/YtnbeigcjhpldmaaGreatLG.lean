import Derived.Test.YtnbeigcjhpldmaaGreatLF
set_option linter.unusedSimpArgs false
set_option linter.unusedVariables false
set_option linter.unusedSimpArgs false
set_option linter.unusedVariables false
namespace Go.Rect
open Go.Eng
def joinL (a b : List Rc) : Bool := ((decide (0 < (a.length : Int)) && decide (0 < (b.length : Int))) && ((a.getD 0 zR).y + (a.getD 0 zR).h == (b.getD 0 zR).y)) && akB a b
def bandO : Option Bd → List Rc
  | none => []
  | some c => c.rs.map (rnR c.y c.h)
def rbf (a : List Rc) (i : Nat) : List Rc := match pfold (a.take i) with
  | some (d, _) => bandO d.getLast?
  | none => []
def rbd (a : List Rc) (i : Nat) : List Rc := match pfold (a.take i) with
  | some (_, o) => bandO o
  | none => []
structure RI (a : List Rc) (i : Nat) : Prop where
  le : i ≤ a.length
  ok : (pfold (a.take i)).isSome = true
  wd : Wd (a.take i)
theorem rg_none {a : List Rc} {i : Nat} (h : pfold (a.take i) = none) : false = rightB a := by
  rw [rightB, pf_take h]; simp [finB]
theorem rg_bad {a : List Rc} {k : Nat} (hk : (k : Int) < (a.length : Int)) (h : emptyB (a.getD k zR) = true) : false = rightB a := by
  symm; rw [rightB, Bool.and_eq_false_iff]; left
  rw [← Bool.not_eq_true, all_wd]
  exact fun hw => by rw [hw _ (gD_mem (by omega))] at h; cases h
section
variable {a : List Rc} {k : Nat}
end
end Go.Rect

set_option linter.unusedSimpArgs false
set_option linter.unusedVariables false
namespace Go.Rect
open Go.Eng
def cols (a : List Rc) (i j : Nat) : List Rw := ((a.drop i).take (j - i)).map rwR
structure RO (a : List Rc) (i : Nat) (o : Option Bd) : Prop where
  le : i ≤ a.length
  ok : ∃ d, pfold (a.take i) = some (d, o) ∧ ∀ c, o = some c → joinC d c = false ∧ (i < a.length → (a.getD i zR).y ≠ c.y)
structure RCo (a : List Rc) (i j : Nat) : Prop where
  lt : i < j
  le : j ≤ a.length
  run : ∀ k, i < k → k < j → (a.getD k zR).y = (a.getD i zR).y ∧ (a.getD k zR).h = (a.getD i zR).h ∧ lastHi (cols a i k) < (a.getD k zR).x
theorem drop_getD {α : Type} {a : List α} {i k : Nat} {d : α} : (a.drop i).getD k d = a.getD (i + k) d := by
  simp [List.getD_eq_getElem?_getD, List.getElem?_drop]
theorem cols_s {a : List Rc} {i j : Nat} (h : i ≤ j) (hj : j < a.length) : cols a i (j + 1) = cols a i j ++ [rwR (a.getD j zR)] := by
  rw [cols, show j + 1 - i = (j - i) + 1 from by omega, take_s zR (by rw [List.length_drop]; omega), List.map_append, drop_getD, show i + (j - i) = j from by omega]; rfl
theorem cols_1 {a : List Rc} {i : Nat} (h : i < a.length) : cols a i (i + 1) = [rwR (a.getD i zR)] := by
  rw [cols_s (Nat.le_refl _) h, cols, Nat.sub_self]; rfl
theorem cols_len {a : List Rc} {i j : Nat} (hj : j ≤ a.length) : (cols a i j).length = j - i := by
  rw [cols, List.length_map, List.length_take, List.length_drop]; omega
theorem ro_0 (a : List Rc) : RO a 0 none := ⟨Nat.zero_le _, [], rfl, fun c h => by cases h⟩
theorem rc_1 {a : List Rc} {i : Nat} (h : (i : Int) < (a.length : Int)) : RCo a i (i + 1) := ⟨by omega, by omega, fun k h1 h2 => by omega⟩
theorem rc_s {a : List Rc} {i j : Nat} (h : RCo a i j) (hj : (j : Int) < (a.length : Int)) (hy : (a.getD j zR).y = (a.getD i zR).y) (hh : (a.getD j zR).h = (a.getD i zR).h) (hx : ¬ (a.getD j zR).x ≤ ((cols a i j).getD ((cols a i j).length - 1) zN).hi) : RCo a i (j + 1) :=
  ⟨by have := h.lt; omega, by omega, fun k h1 h2 => by
    by_cases e : k < j
    · exact h.run k h1 e
    · have : k = j := by omega
      subst this
      exact ⟨hy, hh, by unfold lastHi; omega⟩⟩
def badY (o : Option Bd) (y : Int) : Prop := ∃ c, o = some c ∧ y < c.y + c.h
section
variable {a : List Rc} {i j : Nat} {o : Option Bd}
theorem ro_bad (h : RO a i o) (hi : i < a.length) (hb : badY o (a.getD i zR).y) : pfold (a.take (i + 1)) = none := by
  obtain ⟨d, hs, h2⟩ := h.ok
  obtain ⟨c, rfl, hb⟩ := hb
  obtain ⟨h3, h4⟩ := h2 c rfl
  rw [pf_s hi, hs]
  simp only [Option.bind_some, pst]
  rw [if_neg (fun e => h4 hi e.1), if_pos (.inl hb)]
theorem ro_run (h : RO a i o) (hi : i < a.length) (hb : ¬ badY o (a.getD i zR).y) : ∃ d, (∀ c, o = some c → ∃ d', d = d' ++ [c]) ∧ (o = none → d = []) ∧ ∀ j, RCo a i j → pfold (a.take j) = some (d, some ⟨(a.getD i zR).y, (a.getD i zR).h, cols a i j⟩) := by
  obtain ⟨d, hs, h2⟩ := h.ok
  have hok := pf_ok hs
  have base : pfold (a.take (i + 1)) = some (d ++ o.toList, some ⟨(a.getD i zR).y, (a.getD i zR).h, cols a i (i + 1)⟩) := by
    rw [pf_s hi, hs, cols_1 hi]
    cases o with
    | none => simp [pst]
    | some c =>
      obtain ⟨h3, h4⟩ := h2 c rfl
      simp only [Option.bind_some, pst]
      rw [if_neg (fun e => h4 hi e.1), if_neg (by rw [h3]; rintro (e | e); exact hb ⟨c, rfl, e⟩; cases e)]
      rfl
  refine ⟨d ++ o.toList, fun c hc => ⟨d, by rw [hc]; rfl⟩, fun e => by rw [e, hok.no e]; rfl, ?_⟩
  intro j
  induction j with
  | zero => exact fun hr => absurd hr.lt (by omega)
  | succ j ih =>
    intro hr
    by_cases e : j = i
    · subst e; exact base
    · have h1 := hr.lt
      have h2 := hr.le
      have hr' : RCo a i j := ⟨by omega, by omega, fun k h1 h2 => hr.run k h1 (by omega)⟩
      obtain ⟨q1, q2, q3⟩ := hr.run j (by omega) (by omega)
      rw [pf_s (by omega), ih hr', cols_s (by omega) (by omega)]
      simp only [Option.bind_some, pst]
      rw [if_pos ⟨q1, q2⟩, if_neg (show ¬ (a.getD j zR).x ≤ lastHi (cols a i j) by omega)]
theorem rgI (hw : Wd a) (h : RO a i o) (hr : RCo a i j) (hj : (j : Int) < (a.length : Int)) (hy : (a.getD j zR).y = (a.getD i zR).y) (hc : (a.getD j zR).h ≠ (a.getD i zR).h ∨ (a.getD j zR).x ≤ ((cols a i j).getD ((cols a i j).length - 1) zN).hi) : false = rightB a := by
  have h1 := hr.lt
  by_cases hb : badY o (a.getD i zR).y
  · exact rg_none (ro_bad h (by omega) hb)
  · obtain ⟨d, _, _, hq⟩ := ro_run h (by omega) hb
    refine rg_none (i := j + 1) ?_
    rw [pf_s (by omega), hq j hr]
    simp only [Option.bind_some, pst]
    by_cases e : (a.getD j zR).h = (a.getD i zR).h
    · rw [if_pos ⟨hy, e⟩, if_pos (show (a.getD j zR).x ≤ lastHi (cols a i j) from hc.resolve_left (fun h => h e))]
    · have := empty_spec.1 (hw _ (gD_mem (l := a) (d := zR) (k := i) (by omega)))
      rw [if_neg (fun h => e h.2), if_pos (.inl (by omega))]
theorem rgO {c : Bd} (hw : Wd a) (h : RO a i (some c)) (hr : RCo a i j) (he : (a.length : Int) ≤ (j : Int) ∨ (a.getD j zR).y ≠ (a.getD i zR).y) (hc : (a.getD i zR).y < c.y + c.h ∨ ((a.getD i zR).y = c.y + c.h ∧ c.rs = cols a i j)) : false = rightB a := by
  have h1 := hr.lt
  have h2 := hr.le
  by_cases hb : badY (some c) (a.getD i zR).y
  · exact rg_none (ro_bad h (by omega) hb)
  · obtain ⟨d, hd, _, hq⟩ := ro_run h (by omega) hb
    obtain ⟨d', rfl⟩ := hd c rfl
    have hc' := hc.resolve_left (fun e => hb ⟨c, rfl, e⟩)
    have hj : joinC (d' ++ [c]) ⟨(a.getD i zR).y, (a.getD i zR).h, cols a i j⟩ = true := by
      simp only [joinC, List.getLast?_append, List.getLast?_singleton, Option.some_or, decide_eq_true_eq]
      exact ⟨hc'.1.symm, hc'.2⟩
    have hs := hq j hr
    by_cases e : j = a.length
    · rw [show a.take j = a from List.take_of_length_le (by omega)] at hs
      rw [rightB, hs]
      simp only [finB, hj, Bool.not_true, Bool.and_false]
    · refine rg_none (i := j + 1) ?_
      rw [pf_s (by omega), hs]
      simp only [Option.bind_some, pst]
      rw [if_neg (fun h => (he.resolve_left (by omega)) h.1), if_pos (.inr hj)]
theorem rgN (h : RO a i o) (hr : RCo a i j) (he : (a.length : Int) ≤ (j : Int) ∨ (a.getD j zR).y ≠ (a.getD i zR).y) (hc : ∀ c, o = some c → ¬ ((a.getD i zR).y < c.y + c.h ∨ ((a.getD i zR).y = c.y + c.h ∧ c.rs = cols a i j))) : RO a j (some ⟨(a.getD i zR).y, (a.getD i zR).h, cols a i j⟩) := by
  have h1 := hr.lt
  have h2 := hr.le
  obtain ⟨d, hd, hd0, hq⟩ := ro_run h (by omega) (fun ⟨c, e, hb⟩ => hc c e (.inl hb))
  refine ⟨h2, d, hq j hr, fun c' hc' => ?_⟩
  simp only [Option.some.injEq] at hc'; subst hc'
  refine ⟨?_, fun hj => he.resolve_left (by omega)⟩
  cases o with
  | none => rw [hd0 rfl]; rfl
  | some c =>
    obtain ⟨d', rfl⟩ := hd c rfl
    simp only [joinC, List.getLast?_append, List.getLast?_singleton, Option.some_or, decide_eq_false_iff_not]
    exact fun e => hc c rfl (.inr ⟨e.1.symm, e.2⟩)
theorem rgF (hw : Wd a) (h : RO a i o) (hi : (a.length : Int) ≤ (i : Int)) : true = rightB a := by
  obtain ⟨d, hs, h2⟩ := h.ok
  rw [take_all hi] at hs
  rw [rightB, all_wd.2 hw, hs]
  cases o with
  | none => rfl
  | some c => rw [finB, (h2 c rfl).1]; rfl
theorem ro_ne {c : Bd} (h : RO a i (some c)) : 0 < c.rs.length ∧ c.rs.length ≤ a.length := by
  obtain ⟨d, hs, h2⟩ := h.ok
  have hok := pf_ok hs
  refine ⟨List.length_pos_iff.2 (hok.ne c (by simp)), ?_⟩
  have : (flatB (d ++ [c])).length ≤ a.length := by rw [show d ++ [c] = d ++ (some c).toList from rfl, hok.fl, List.length_take]; omega
  rw [flat_app, flat_one, List.length_append, List.length_map] at this; omega
end
end Go.Rect

set_option linter.unusedSimpArgs false
set_option linter.unusedVariables false
namespace Go.Rect
open Go.Eng
theorem hgt_asc (a b : List Rc) : Asc (hgtF a b) := asc_cmp _
theorem hgt_mem (a b : List Rc) (x : Int) : x ∈ hgtF a b ↔ x ∈ edY a ++ edY b := mem_cmp _ _
theorem srtU_asc (l : List Int) : Asc (srtU [] l) := (srtU_spec (st := []) trivial).1
theorem srtU_mem (l : List Int) (x : Int) : x ∈ srtU [] l ↔ x ∈ l := by rw [(srtU_spec (st := []) trivial).2]; simp
theorem atR_b {l : List Rc} {y : Int} (hw : Wd l) (x : Int) : atR (rowF l y) x = inLb l x y := by
  have h := rowF_spec (y := y) (wd_pos hw)
  rw [Bool.eq_iff_iff, atR_in h.1, h.2, inLb_in]
theorem cano_spec {keep : Bool → Bool → Bool} (h0 : keep false false = false) {A B : List Rc} (hA : Wd A) (hB : Wd B) :
    CanB (canL (rowKp keep A B) [] (hgtF A B)) ∧ ∀ x y, inBd (canL (rowKp keep A B) [] (hgtF A B)) x y ↔ keep (inLb A x y) (inLb B x y) = true := by
  refine bands_spec h0 (fun y => ?_) (fun x y => ?_) (hgt_asc A B) (hgt_mem A B)
  · exact (comb_spec h0 (rowF_spec (wd_pos hA)).1 (rowF_spec (wd_pos hB)).1 (asc_cmp _) (mem_cmp _)).1
  · have := (comb_spec h0 (rowF_spec (y := y) (wd_pos hA)).1 (rowF_spec (y := y) (wd_pos hB)).1 (asc_cmp _) (mem_cmp _)).2 x
    rw [atR_b hA, atR_b hB] at this
    exact this
theorem ins_kp (how : Int) (a b : List Rc) (x y : Int) : insH how a b x y = kpH how (inLb a x y) (inLb b x y) := insH_kp how a b x y
theorem kp_0 (how : Int) : kpH how false false = false := kpH_ff how
theorem bld_spec (how : Int) (a b : List Rc) :
    CanB (canL (bRow how a b) [] (bY a b)) ∧ ∀ x y, inBd (canL (bRow how a b) [] (bY a b)) x y ↔ kpH how (inLb a x y) (inLb b x y) = true := by
  have e : ∀ y, bRow how a b y = runC (fun x => kpH how (inLb a x y) (inLb b x y)) [] (bX a b) := fun y => by
    rw [bRow]; congr 1; funext x; exact ins_kp _ _ _ _ _
  refine bands_spec (kp_0 how) (fun y => ?_) (fun x y => ?_) (srtU_asc _) (srtU_mem _)
  · rw [e]; exact (brow_spec (kp_0 how) (srtU_asc _) (srtU_mem _) y).1
  · rw [e]; exact (brow_spec (kp_0 how) (srtU_asc _) (srtU_mem _) y).2 x
theorem cano_bld (how : Int) (a b : List Rc) : canoF (kpH how) a b = bldF how (els a) (els b) := by
  have h1 := cano_spec (kp_0 how) (els_wd a) (els_wd b)
  have h2 := bld_spec how (els a) (els b)
  rw [canoF, bldF, cb_uniq h1.1 h2.1 fun x y => by rw [h1.2, h2.2]]
theorem kpU_0 : kpH 0 = orB := rfl
theorem els_nil : els [] = [] := rfl
theorem els_id {a : List Rc} (hw : Wd a) (hl : a.length ≤ 256) : els a = a := by
  have h1 : tkM a = a := List.take_of_length_le hl
  rw [els, h1, List.filter_eq_self]
  intro r hr
  rw [hw r hr]; rfl
theorem bld_of (a : List Rc) : bldF 0 (els a) [] = canoF orB a [] := (cano_bld 0 a []).symm
theorem bld_or (a b : List Rc) : bldF 0 (els a) (els b) = canoF orB a b := (cano_bld 0 a b).symm
theorem bld_and (a b : List Rc) : bldF 1 (els a) (els b) = canoF andB a b := (cano_bld 1 a b).symm
theorem bld_not (a b : List Rc) : bldF 2 (els a) (els b) = canoF notB a b := (cano_bld 2 a b).symm
theorem bldF_wd {how : Int} {a b : List Rc} (ha : Wd a) (hb : Wd b) (la : a.length ≤ 256) (lb : b.length ≤ 256) : Wd (bldF how a b) := by
  by_cases h : (bY a b).length = 0
  · rw [bldF, show bY a b = [] from List.eq_nil_of_length_eq_zero h]
    intro r hr; cases hr
  · rw [bldF, ← canK_all]
    exact (bOk (how := how) ha hb la lb (by omega)).wd
theorem cano_wd {how : Int} {a b : List Rc} : Wd (canoF (kpH how) a b) := by
  rw [cano_bld]; exact bldF_wd (els_wd _) (els_wd _) (els_len _) (els_len _)
theorem flat_in {st : List Bd} {x y : Int} : inLs (flatB st) x y ↔ inBd st x y := by
  simp only [inLs, inBd, flatB, List.mem_flatMap, List.mem_map]
  constructor
  · rintro ⟨r, ⟨b, hb, p, hp, rfl⟩, h1, h2⟩
    simp only at h1 h2
    exact ⟨b, hb, h2, p, hp, by omega⟩
  · rintro ⟨b, hb, h2, p, hp, h1⟩
    refine ⟨_, ⟨b, hb, p, hp, rfl⟩, ?_⟩
    simp only [hasI]; omega
theorem cano_in {how : Int} {a b : List Rc} (x y : Int) : inLb (canoF (kpH how) a b) x y = kpH how (inLb (els a) x y) (inLb (els b) x y) := by
  rw [Bool.eq_iff_iff, inLb_in, canoF, flat_in, (cano_spec (kp_0 how) (els_wd a) (els_wd b)).2]
end Go.Rect

set_option linter.unusedSimpArgs false
set_option linter.unusedVariables false
namespace Go.Rect
open Go.Eng
theorem wd_any {l : List Rc} (h : Wd l) (k : Nat) : (-1048576 ≤ (l.getD k zR).x ∧ 0 ≤ (l.getD k zR).w ∧ (l.getD k zR).x + (l.getD k zR).w ≤ 1048576) ∧ (-1048576 ≤ (l.getD k zR).y ∧ 0 ≤ (l.getD k zR).h ∧ (l.getD k zR).y + (l.getD k zR).h ≤ 1048576) := by
  by_cases hk : k < l.length
  · have := wd_at h (k := k) (by omega); omega
  · rw [List.getD_eq_getElem?_getD, List.getElem?_eq_none (by omega)]; simp [zR]
theorem all_wd2 {a : List Rc} {q : Nat} (h : ∀ j, j < q → emptyB (a.getD j zR) = false) (hq : (a.length : Int) ≤ (q : Int)) : Wd a := fun r hr => by
  obtain ⟨j, hj, rfl⟩ := List.getElem_of_mem hr
  have := h j (by omega)
  rwa [List.getD_eq_getElem?_getD, List.getElem?_eq_getElem hj] at this
theorem cols_hi {a : List Rc} (hw : Wd a) {i : Nat} : ∀ (j : Nat), RCo a i j → -1048577 + 2 * ((j : Int) - (i : Int)) ≤ lastHi (cols a i j) ∧ lastHi (cols a i j) ≤ 1048576
  | 0, h => absurd h.lt (by omega)
  | j + 1, h => by
    have h1 := h.lt
    have h2 := h.le
    have hq := wd_at hw (k := j) (by omega)
    rw [cols_s (by omega) (by omega), lastHi_c]
    simp only [rwR]
    by_cases e : j = i
    · subst e; omega
    · have hr : RCo a i j := ⟨by omega, by omega, fun k h1 h2 => h.run k h1 (by omega)⟩
      have := cols_hi hw j hr
      have := (h.run j (by omega) (by omega)).2.2
      omega
theorem cols_bd {a : List Rc} (hw : Wd a) {i j : Nat} (h : RCo a i j) : (cols a i j).length ≤ 1048577 := by
  have h1 := cols_hi hw j h
  have h2 := cols_len (i := i) h.le
  have := h.lt
  omega
def rgtE (r : Rc) : Int := r.x + r.w
def botE (r : Rc) : Int := r.y + r.h
def loK (f : Rc → Int) (l : List Rc) : Nat → Int
  | 0 => f (l.getD 0 zR)
  | k + 1 => if f (l.getD k zR) < loK f l k then f (l.getD k zR) else loK f l k
def hiK (f : Rc → Int) (l : List Rc) : Nat → Int
  | 0 => f (l.getD 0 zR)
  | k + 1 => if hiK f l k < f (l.getD k zR) then f (l.getD k zR) else hiK f l k
section
variable {f : Rc → Int} {l : List Rc} {k : Nat}
end
theorem wh_wrap {r : Rc} (h1 : 0 ≤ r.w ∧ r.w ≤ 2097152) (h2 : 0 ≤ r.h ∧ r.h ≤ 2097152) : IntKind.i64.wrap (r.w * r.h) = r.w * r.h := by
  have a1 : 0 ≤ r.w * r.h := Int.mul_nonneg h1.1 h2.1
  have a2 : r.w * r.h ≤ 2097152 * 2097152 := Int.mul_le_mul h1.2 h2.2 h2.1 (by omega)
  exact w64 (by omega) (by omega)
theorem cwh_mul (a : List Rc) (k : Nat) : IntKind.i64.wrap (((canoF orB a []).getD k zR).w * ((canoF orB a []).getD k zR).h) = ((canoF orB a []).getD k zR).w * ((canoF orB a []).getD k zR).h := by
  have := wd_any (l := canoF orB a []) (cano_wd (how := 0)) k
  exact wh_wrap (by omega) (by omega)
theorem arK_s {a : List Rc} {k : Nat} (h : (k : Int) < ((canoF orB a []).length : Int)) : IntKind.i64.wrap (arK (canoF orB a []) k + ((canoF orB a []).getD k zR).w * ((canoF orB a []).getD k zR).h) = arK (canoF orB a []) (k + 1) := by
  have he : emptyB ((canoF orB a []).getD k zR) = false := (cano_wd (how := 0)) _ (gD_mem (l := canoF orB a []) (by omega))
  rw [arK, areaI, he]; rfl
section
variable {a : List Rc} {k : Nat}
end
theorem rge {a : List Rc} {i j : Nat} (h : (decide ((j : Int) < (a.length : Int)) && (a.getD j zR).y == (a.getD i zR).y) = false) : (a.length : Int) ≤ (j : Int) ∨ (a.getD j zR).y ≠ (a.getD i zR).y := by
  simp only [Bool.and_eq_false_iff, decide_eq_false_iff_not, beq_eq_false_iff_ne] at h
  omega
theorem rgs {c : Bd} {y : Int} {l : List Rw} (h : c.y + c.h ≤ y ∧ (y == c.y + c.h && sameL c.rs l) = false) : ∀ c', some c = some c' → ¬ (y < c'.y + c'.h ∨ (y = c'.y + c'.h ∧ c'.rs = l)) := by
  intro c' e
  simp only [Option.some.injEq] at e; subst e
  rintro (h1 | ⟨h1, h2⟩)
  · omega
  · have := h.2
    rw [sameL, decide_eq_true h2, h1] at this
    simp at this
theorem no_some {P : Bd → Prop} : ∀ c, (none : Option Bd) = some c → P c := fun c e => by cases e
end Go.Rect

set_option linter.unusedSimpArgs false
set_option linter.unusedVariables false
namespace Go.Rect
open Go.Eng
theorem aw1 : canoF orB [⟨0, 0, 2, 2⟩, ⟨1, 1, 2, 2⟩] [] = [⟨0, 0, 2, 1⟩, ⟨0, 1, 3, 1⟩, ⟨1, 2, 2, 1⟩] := by rw [← bld_of]; decide
theorem aw2 : canoF orB [⟨0, 0, 2, 2⟩] [⟨1, 1, 2, 2⟩] = [⟨0, 0, 2, 1⟩, ⟨0, 1, 3, 1⟩, ⟨1, 2, 2, 1⟩] := by rw [← bld_or]; decide
theorem aw3 : canoF andB [⟨0, 0, 2, 2⟩] [⟨1, 1, 2, 2⟩] = [⟨1, 1, 1, 1⟩] := by rw [← bld_and]; decide
theorem aw4 : canoF notB [⟨0, 0, 3, 3⟩] [⟨1, 1, 1, 1⟩] = [⟨0, 0, 3, 1⟩, ⟨0, 1, 1, 1⟩, ⟨2, 1, 1, 1⟩, ⟨0, 2, 3, 1⟩] := by rw [← bld_not]; decide
theorem aw5 : rightB [⟨0, 0, 2, 1⟩, ⟨0, 1, 3, 1⟩, ⟨1, 2, 2, 1⟩] = true := by decide
theorem aw6 : rightB [⟨0, 0, 2, 2⟩, ⟨1, 1, 2, 2⟩] = false := by decide
theorem aw7 : areaL [⟨0, 0, 2, 1⟩, ⟨0, 1, 3, 1⟩, ⟨1, 2, 2, 1⟩] = 7 := by decide
theorem aw8 : boxL (els [⟨0, 0, 2, 2⟩, ⟨1, 1, 2, 2⟩]) = ⟨0, 0, 3, 3⟩ := by decide
theorem aw9 : hasR [⟨0, 0, 2, 2⟩] ⟨1, 0⟩ = true := by decide
theorem aw10 : hasR [⟨0, 0, 2, 2⟩] ⟨2, 0⟩ = false := by decide
theorem aw11 : canoF orB (growL (clampI 1 0 1048576) (els [⟨0, 0, 1, 1⟩])) [] = [⟨-1, -1, 3, 3⟩] := by rw [← bld_of]; decide
theorem aw12 : tilesF [⟨15, 0, 2, 1⟩] = [⟨0, 0⟩, ⟨1, 0⟩] := by
  have h : ftK (els [⟨15, 0, 2, 1⟩]) (els [⟨15, 0, 2, 1⟩]).length = [⟨0, 0⟩, ⟨1, 0⟩] := by decide
  have h2 : (List.range (els [⟨15, 0, 2, 1⟩]).length).any (badT (els [⟨15, 0, 2, 1⟩])) = false := by decide
  rw [tilesF, h2, h]
  simp only [Bool.false_eq_true, if_false, srtPt]
  exact List.mergeSort_of_pairwise (by decide)
theorem sameL_self {α : Type} [DecidableEq α] (l : List α) : sameL l l = true := by simp [sameL]
end Go.Rect

set_option linter.unusedSimpArgs false
set_option linter.unusedVariables false
namespace Go.Rect
open Go.Eng
end Go.Rect

