import Derived.Test.YtnbeigcjhpldmaaLG
set_option linter.unusedSimpArgs false
set_option linter.unusedVariables false
set_option linter.unusedSimpArgs false
set_option linter.unusedVariables false
namespace Go.Rect
open Go.Eng
/-! ### Areas, by counting pixels -/
def cntZ (f : Int → Bool) : Nat → Int
  | 0 => 0
  | n + 1 => cntZ f n + (if f (-1048576 + n) then 1 else 0)
def sumZ (g : Int → Int) : Nat → Int
  | 0 => 0
  | n + 1 => sumZ g n + g (-1048576 + n)
def A2 (N : Nat) (S : Int → Int → Bool) : Int := sumZ (fun y => cntZ (fun x => S x y) N) N
theorem cnt_add (f g : Int → Bool) : ∀ n, cntZ f n + cntZ g n = cntZ (fun x => f x || g x) n + cntZ (fun x => f x && g x) n
  | 0 => rfl
  | n + 1 => by
    have := cnt_add f g n
    simp only [cntZ]
    by_cases hf : f (-1048576 + n) = true <;> by_cases hg : g (-1048576 + n) = true <;> simp [hf, hg] <;> omega
theorem sum_add (f g : Int → Int) : ∀ n, sumZ f n + sumZ g n = sumZ (fun x => f x + g x) n
  | 0 => rfl
  | n + 1 => by have := sum_add f g n; simp only [sumZ]; omega
theorem A2_add (N : Nat) (S T : Int → Int → Bool) : A2 N S + A2 N T = A2 N (fun x y => S x y || T x y) + A2 N (fun x y => S x y && T x y) := by
  rw [A2, A2, A2, A2, sum_add, sum_add]
  congr 1
  funext y
  exact cnt_add _ _ _
theorem cnt_0 : ∀ n, cntZ (fun _ => false) n = 0
  | 0 => rfl
  | n + 1 => by simp [cntZ, cnt_0 n]
theorem sum_0 : ∀ n, sumZ (fun _ => 0) n = 0
  | 0 => rfl
  | n + 1 => by simp [sumZ, sum_0 n]
theorem A2_0 (N : Nat) : A2 N (fun _ _ => false) = 0 := by
  rw [A2]; simp only [cnt_0]; exact sum_0 N
theorem cnt_iv {lo hi : Int} (h1 : -1048576 ≤ lo) (h2 : lo ≤ hi) : ∀ n : Nat, cntZ (fun x => decide (lo ≤ x ∧ x < hi)) n = max 0 (min hi (-1048576 + n) - lo)
  | 0 => by simp only [cntZ]; omega
  | n + 1 => by
    have := cnt_iv h1 h2 n
    simp only [cntZ, this, decide_eq_true_eq]
    split <;> omega
theorem sum_iv {lo hi w : Int} (h1 : -1048576 ≤ lo) (h2 : lo ≤ hi) : ∀ n : Nat, sumZ (fun y => if lo ≤ y ∧ y < hi then w else 0) n = w * max 0 (min hi (-1048576 + n) - lo)
  | 0 => by simp only [sumZ]; rw [show max 0 (min hi (-1048576 + ((0 : Nat) : Int)) - lo) = 0 from by omega, Int.mul_zero]
  | n + 1 => by
    have := sum_iv (w := w) h1 h2 n
    simp only [sumZ, this]
    split
    · rw [show max 0 (min hi (-1048576 + ((n + 1 : Nat) : Int)) - lo) = max 0 (min hi (-1048576 + n) - lo) + 1 from by omega, Int.mul_add, Int.mul_one]
    · rw [show max 0 (min hi (-1048576 + ((n + 1 : Nat) : Int)) - lo) = max 0 (min hi (-1048576 + n) - lo) from by omega, Int.add_zero]
theorem A2_rect {N : Nat} (hN : (N : Int) = 2097152) {r : Rc} (h : emptyB r = false) : A2 N (fun x y => decide (hasI r x y)) = r.w * r.h := by
  have hr := empty_spec.1 h
  have e : (fun y => cntZ (fun x => decide (hasI r x y)) N) = fun y => if r.y ≤ y ∧ y < r.y + r.h then r.w else 0 := by
    funext y
    by_cases hy : r.y ≤ y ∧ y < r.y + r.h
    · rw [if_pos hy]
      have : (fun x => decide (hasI r x y)) = fun x => decide (r.x ≤ x ∧ x < r.x + r.w) := by
        funext x
        rw [decide_eq_decide]; unfold hasI
        exact ⟨fun h => h.1, fun h => ⟨h, hy⟩⟩
      rw [this, cnt_iv (by omega) (by omega)]
      omega
    · rw [if_neg hy]
      have : (fun x => decide (hasI r x y)) = fun _ => false := by
        funext x
        rw [decide_eq_false_iff_not]; unfold hasI
        exact fun h => hy h.2
      rw [this, cnt_0]
  rw [A2, e, sum_iv (by omega) (by omega)]
  congr 1
  omega
def arS : List Rc → Int
  | [] => 0
  | r :: l => r.w * r.h + arS l
def Disj (r q : Rc) : Prop := ∀ x y, ¬ (hasI r x y ∧ hasI q x y)
theorem A2_list {N : Nat} (hN : (N : Int) = 2097152) : ∀ {l : List Rc}, Wd l → l.Pairwise Disj → A2 N (fun x y => inLb l x y) = arS l
  | [], _, _ => A2_0 N
  | r :: l, hw, hd => by
    obtain ⟨h1, h2⟩ := List.pairwise_cons.1 hd
    have ih := A2_list hN (l := l) (fun q hq => hw q (by simp [hq])) h2
    have hr := A2_rect hN (hw r (by simp))
    have ha := A2_add N (fun x y => decide (hasI r x y)) (fun x y => inLb l x y)
    have e : (fun x y => decide (hasI r x y) && inLb l x y) = fun _ _ => false := by
      funext x y
      rw [Bool.and_eq_false_iff, decide_eq_false_iff_not, ← Bool.not_eq_true, inLb_in]
      by_cases hx : hasI r x y
      · exact .inr fun ⟨q, hq, hh⟩ => h1 q hq x y ⟨hx, hh⟩
      · exact .inl hx
    rw [e, A2_0, ih, hr] at ha
    simp only [inLb_cons, arS]
    omega
theorem disj_rs {y h : Int} : ∀ {rs : List Rw}, Mx rs → (rs.map (rnR y h)).Pairwise Disj
  | [], _ => List.Pairwise.nil
  | p :: rs, hm => by
    rw [List.map_cons, List.pairwise_cons]
    refine ⟨fun q hq x y' => ?_, disj_rs hm.2.2⟩
    obtain ⟨s, hs, rfl⟩ := List.mem_map.1 hq
    rintro ⟨h1, h2⟩
    simp only [hasI, rnR] at h1 h2
    have := mx_tl hm (x := x) ⟨s, hs, by omega, by omega⟩
    omega
theorem disj_can : ∀ {st : List Bd}, CanB st → (flatB st).Pairwise Disj
  | [], _ => List.Pairwise.nil
  | b :: l, hc => by
    rw [show flatB (b :: l) = b.rs.map (rnR b.y b.h) ++ flatB l from rfl, List.pairwise_append]
    refine ⟨disj_rs hc.1.2.1, disj_can hc.2.2, fun r hr q hq x y => ?_⟩
    rintro ⟨h1, h2⟩
    obtain ⟨s, hs, rfl⟩ := List.mem_map.1 hr
    have := cb_tl hc (flat_in.1 ⟨q, hq, h2⟩)
    simp only [hasI, rnR] at h1
    omega
theorem wrap_add (a b : Int) : IntKind.i64.wrap (IntKind.i64.wrap a + b) = IntKind.i64.wrap (a + b) := by
  simp only [IntKind.wrap_i64]; omega
theorem wrap_add2 (a b : Int) : IntKind.i64.wrap (IntKind.i64.wrap a + IntKind.i64.wrap b) = IntKind.i64.wrap (a + b) := by
  simp only [IntKind.wrap_i64]; omega
theorem arS_app (l m : List Rc) : arS (l ++ m) = arS l + arS m := by
  induction l with
  | nil => simp [arS]
  | cons r l ih => simp only [List.cons_append, arS, ih]; omega
theorem arK_w {l : List Rc} (hw : Wd l) : ∀ k, k ≤ l.length → arK l k = IntKind.i64.wrap (arS (l.take k))
  | 0, _ => by simp only [arK, List.take_zero, arS]; rw [w64 (by omega) (by omega)]
  | k + 1, h => by
    have he : emptyB (l.getD k zR) = false := hw _ (gD_mem h)
    rw [arK, arK_w hw k (by omega), areaI, he, take_s zR h, arS_app]
    simp only [Bool.false_eq_true, if_false, arS, Int.add_zero]
    exact wrap_add _ _
theorem area_A2 {N : Nat} (hN : (N : Int) = 2097152) {l : List Rc} (h : rightB l = true) : areaL l = IntKind.i64.wrap (A2 N (fun x y => inLb l x y)) := by
  obtain ⟨hw, st, hc, rfl⟩ := right_can.1 h
  rw [areaL, arK_w hw _ (Nat.le_refl _), List.take_length, A2_list hN hw (disj_can hc)]
theorem cano_self {l : List Rc} (h : rightB l = true) (hl : l.length ≤ 256) : canoF orB l [] = l := by
  have := right_of hl
  rw [h, sameL] at this
  simpa using this.symm
theorem of_in (a : List Rc) (x y : Int) : inLb (canoF orB a []) x y = inLb (els a) x y := by
  rw [show orB = kpH 0 from rfl, cano_in, kpU_0]
  simp [orB, els_nil, inLb]
theorem cano_nil {how : Int} {a b : List Rc} (h : ∀ x y, kpH how (inLb (els a) x y) (inLb (els b) x y) = false) : canoF (kpH how) a b = [] :=
  can_uniq cano_right rfl fun x y => by rw [cano_in, h]; rfl
theorem or_in (a b : List Rc) (x y : Int) : inLb (canoF orB a b) x y = (inLb (els a) x y || inLb (els b) x y) := cano_in (how := 0) x y
theorem and_in (a b : List Rc) (x y : Int) : inLb (canoF andB a b) x y = (inLb (els a) x y && inLb (els b) x y) := cano_in (how := 1) x y
theorem not_in (a b : List Rc) (x y : Int) : inLb (canoF notB a b) x y = (inLb (els a) x y && !inLb (els b) x y) := cano_in (how := 2) x y
section
variable {a b : List Rc}
theorem els_and (h : (canoF andB a b).length ≤ 256) : els (canoF andB a b) = canoF andB a b := els_id (cano_wd (how := 1)) h
theorem els_not (h : (canoF notB a b).length ≤ 256) : els (canoF notB a b) = canoF notB a b := els_id (cano_wd (how := 2)) h
theorem areas_1 (hu : (canoF orB a b).length ≤ 256) (hc : (canoF andB a b).length ≤ 256) :
    IntKind.i64.wrap (areaL (canoF orB (canoF orB a b) []) + areaL (canoF orB (canoF andB a b) [])) = IntKind.i64.wrap (areaL (canoF orB a []) + areaL (canoF orB b [])) := by
  obtain ⟨N, hN⟩ : ∃ N : Nat, (N : Int) = 2097152 := ⟨2097152, rfl⟩
  rw [cano_self (l := canoF orB a b) (cano_right (how := 0)) hu, cano_self (l := canoF andB a b) (cano_right (how := 1)) hc, area_A2 (l := canoF orB a b) hN (cano_right (how := 0)), area_A2 (l := canoF andB a b) hN (cano_right (how := 1)), area_A2 (l := canoF orB a []) hN (cano_right (how := 0)), area_A2 (l := canoF orB b []) hN (cano_right (how := 0)), wrap_add2, wrap_add2]
  congr 1
  simp only [of_in]
  simp only [or_in, and_in]
  exact (A2_add N _ _).symm
theorem areas_2 (hm : (canoF notB a b).length ≤ 256) (hc : (canoF andB a b).length ≤ 256) :
    IntKind.i64.wrap (areaL (canoF orB (canoF notB a b) []) + areaL (canoF orB (canoF andB a b) [])) = areaL (canoF orB a []) := by
  obtain ⟨N, hN⟩ : ∃ N : Nat, (N : Int) = 2097152 := ⟨2097152, rfl⟩
  rw [cano_self (l := canoF notB a b) (cano_right (how := 2)) hm, cano_self (l := canoF andB a b) (cano_right (how := 1)) hc, area_A2 (l := canoF notB a b) hN (cano_right (how := 2)), area_A2 (l := canoF andB a b) hN (cano_right (how := 1)), area_A2 (l := canoF orB a []) hN (cano_right (how := 0)), wrap_add2]
  congr 1
  simp only [of_in]
  simp only [not_in, and_in]
  rw [A2_add]
  have e1 : (fun x y => (inLb (els a) x y && !inLb (els b) x y || inLb (els a) x y && inLb (els b) x y)) = fun x y => inLb (els a) x y := by
    funext x y; cases inLb (els a) x y <;> cases inLb (els b) x y <;> rfl
  have e2 : (fun x y => (inLb (els a) x y && !inLb (els b) x y && (inLb (els a) x y && inLb (els b) x y))) = fun _ _ => false := by
    funext x y; cases inLb (els a) x y <;> cases inLb (els b) x y <;> rfl
  rw [e1, e2, A2_0, Int.add_zero]
theorem areas_3 (hm : (canoF notB a b).length ≤ 256) (hc : (canoF andB a b).length ≤ 256) : canoF orB (canoF notB a b) (canoF andB a b) = canoF orB a [] := by
  refine can_uniq (cano_right (how := 0)) (cano_right (how := 0)) fun x y => ?_
  rw [or_in, of_in, els_not hm, els_and hc, not_in, and_in]
  cases inLb (els a) x y <;> cases inLb (els b) x y <;> rfl
theorem areas_4 : canoF orB a b = canoF orB b a := by
  refine can_uniq (cano_right (how := 0)) (cano_right (how := 0)) fun x y => ?_
  rw [or_in, or_in, Bool.or_comm]
theorem areas_5 : canoF andB a b = canoF andB b a := by
  refine can_uniq (cano_right (how := 1)) (cano_right (how := 1)) fun x y => ?_
  rw [and_in, and_in, Bool.and_comm]
theorem areas_6 (hm : (canoF notB a b).length ≤ 256) : canoF andB (canoF notB a b) b = [] :=
  cano_nil (how := 1) fun x y => by
    rw [els_not hm, not_in]
    cases inLb (els a) x y <;> cases inLb (els b) x y <;> rfl
theorem al3 (h : (((canoF orB a b).length : Int) ≤ 256 ∧ ((canoF andB a b).length : Int) ≤ 256) ∧ ((canoF notB a b).length : Int) ≤ 256) : sameL (canoF orB (canoF notB a b) (canoF andB a b)) (canoF orB a []) = true := by
  rw [areas_3 (by omega) (by omega)]; exact sameL_self _
theorem al4 : sameL (canoF orB a b) (canoF orB b a) = true := by rw [areas_4]; exact sameL_self _
theorem al5 : sameL (canoF andB a b) (canoF andB b a) = true := by rw [areas_5]; exact sameL_self _
theorem areas_law (h : (((canoF orB a b).length : Int) ≤ 256 ∧ ((canoF andB a b).length : Int) ≤ 256) ∧ ((canoF notB a b).length : Int) ≤ 256) :
    ((((IntKind.i64.wrap (areaL (canoF orB (canoF orB a b) []) + areaL (canoF orB (canoF andB a b) [])) = IntKind.i64.wrap (areaL (canoF orB a []) + areaL (canoF orB b [])) ∧
      IntKind.i64.wrap (areaL (canoF orB (canoF notB a b) []) + areaL (canoF orB (canoF andB a b) [])) = areaL (canoF orB a [])) ∧ sameL (canoF orB (canoF notB a b) (canoF andB a b)) (canoF orB a []) = true) ∧
      sameL (canoF orB a b) (canoF orB b a) = true) ∧ sameL (canoF andB a b) (canoF andB b a) = true) ∧ ((canoF andB (canoF notB a b) b).length : Int) = 0 :=
  ⟨⟨⟨⟨⟨areas_1 (by omega) (by omega), areas_2 (by omega) (by omega)⟩, al3 h⟩, al4⟩, al5⟩, by rw [areas_6 (by omega)]; rfl⟩
end
end Go.Rect

