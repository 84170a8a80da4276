import Derived.Test.YtnbeigcjhpldmaaMA
set_option linter.unusedSimpArgs false
set_option linter.unusedVariables false
set_option linter.unusedSimpArgs false
set_option linter.unusedVariables false
namespace Go.Rect
open Go.Eng
/-! ### Growing -/
theorem growC_pt {r : Rc} {n : Int} (h : emptyB r = false) (h0 : 0 ≤ n) (h1 : n ≤ 1048576) :
    emptyB (growR r n) = false ∧ ∀ x y, hasI (growR r n) x y ↔ (-1048576 ≤ x ∧ x < 1048576 ∧ -1048576 ≤ y ∧ y < 1048576) ∧ (r.x - n ≤ x ∧ x < r.x + r.w + n) ∧ (r.y - n ≤ y ∧ y < r.y + r.h + n) := by
  have hr := empty_spec.1 h
  have hl : lim4 n = n := by unfold lim4; omega
  rw [growR, h, hl]
  simp only [Bool.false_eq_true, if_false]
  rw [betweenR, if_neg (by omega), empty_spec]
  refine ⟨by simp only; omega, fun x y => ?_⟩
  unfold hasI
  simp only
  omega
theorem grow_wd {l : List Rc} {n : Int} (hw : Wd l) (h0 : 0 ≤ n) (h1 : n ≤ 1048576) : Wd (growL n l) := fun q hq => by
  obtain ⟨r, hr, rfl⟩ := List.mem_map.1 hq
  exact (growC_pt (hw r hr) h0 h1).1
theorem grow_ls {l : List Rc} {n : Int} (hw : Wd l) (h0 : 0 ≤ n) (h1 : n ≤ 1048576) (x y : Int) :
    inLs (growL n l) x y ↔ ∃ r ∈ l, (-1048576 ≤ x ∧ x < 1048576 ∧ -1048576 ≤ y ∧ y < 1048576) ∧ (r.x - n ≤ x ∧ x < r.x + r.w + n) ∧ (r.y - n ≤ y ∧ y < r.y + r.h + n) := by
  constructor
  · rintro ⟨q, hq, hh⟩
    obtain ⟨r, hr, rfl⟩ := List.mem_map.1 hq
    exact ⟨r, hr, ((growC_pt (hw r hr) h0 h1).2 x y).1 hh⟩
  · rintro ⟨r, hr, hh⟩
    exact ⟨_, List.mem_map.2 ⟨r, hr, rfl⟩, ((growC_pt (hw r hr) h0 h1).2 x y).2 hh⟩
theorem growL_ln (n : Int) (l : List Rc) : (growL n l).length = l.length := by simp [growL]
def growC (n : Int) (a : List Rc) : List Rc := canoF orB (growL n (els a)) []
theorem growC_in {n : Int} {a : List Rc} (h0 : 0 ≤ n) (h1 : n ≤ 1048576) (x y : Int) : inLb (growC n a) x y = true ↔ inLs (growL n (els a)) x y := by
  rw [growC, of_in, els_id (grow_wd (els_wd a) h0 h1) (by rw [growL_ln]; exact els_len a), inLb_in]
theorem grow_two {a : List Rc} {n m : Int} (h0 : 0 ≤ n) (h1 : n ≤ 1048576) (h2 : 0 ≤ m) (h3 : m ≤ 1048576 - n) (hl : (growC n a).length ≤ 256) : growC m (growC n a) = growC (n + m) a := by
  have hg : els (growC n a) = growC n a := els_id (cano_wd (how := 0)) hl
  have hgw : Wd (growC n a) := cano_wd (how := 0)
  refine can_uniq (cano_right (how := 0)) (cano_right (how := 0)) fun x y => ?_
  rw [Bool.eq_iff_iff]
  show inLb (growC m (growC n a)) x y = true ↔ inLb (growC (n + m) a) x y = true
  rw [growC_in h2 (by omega), growC_in (by omega) (by omega), hg, grow_ls hgw h2 (by omega), grow_ls (els_wd a) (by omega) (by omega)]
  constructor
  · rintro ⟨q, hq, hw, hx, hy⟩
    have hq' := empty_spec.1 (hgw q hq)
    have hin : inLs (growC n a) (max q.x (min x (q.x + q.w - 1))) (max q.y (min y (q.y + q.h - 1))) := ⟨q, hq, by unfold hasI; omega⟩
    rw [← inLb_in, growC_in h0 h1, grow_ls (els_wd a) h0 h1] at hin
    obtain ⟨r, hr, _, h5, h6⟩ := hin
    exact ⟨r, hr, hw, by omega, by omega⟩
  · rintro ⟨r, hr, hw, hx, hy⟩
    have hr' := empty_spec.1 (els_wd a r hr)
    have hin : inLs (growL n (els a)) (max (r.x - n) (min x (r.x + r.w + n - 1))) (max (r.y - n) (min y (r.y + r.h + n - 1))) := (grow_ls (els_wd a) h0 h1 _ _).2 ⟨r, hr, by omega, by omega, by omega⟩
    rw [← growC_in h0 h1, inLb_in] at hin
    obtain ⟨q, hq, hh⟩ := hin
    have hq' := empty_spec.1 (hgw q hq)
    unfold hasI at hh
    exact ⟨q, hq, hw, by omega, by omega⟩
theorem grow_minus {a : List Rc} {n : Int} (h0 : 0 ≤ n) (h1 : n ≤ 1048576) (hl : (growC n a).length ≤ 256) : canoF notB a (growC n a) = [] := by
  have hg : els (growC n a) = growC n a := els_id (cano_wd (how := 0)) hl
  refine cano_nil (how := 2) fun x y => ?_
  show (inLb (els a) x y && !inLb (els (growC n a)) x y) = false
  rw [hg, Bool.and_eq_false_iff]
  cases h : inLb (els a) x y
  · exact .inl rfl
  · right
    rw [inLb_in] at h
    obtain ⟨r, hr, hh⟩ := h
    have hr' := empty_spec.1 (els_wd a r hr)
    have : inLb (growC n a) x y = true := by
      rw [growC_in h0 h1, grow_ls (els_wd a) h0 h1]
      unfold hasI at hh
      exact ⟨r, hr, by omega, by omega, by omega⟩
    rw [this]; rfl
theorem growth_law {a : List Rc} {n m : Int} (hc : ((0 ≤ n ∧ n ≤ 1048576) ∧ 0 ≤ m) ∧ m ≤ IntKind.i64.wrap (1048576 - n)) (hl : ((canoF orB (growL (clampI n 0 1048576) (els a)) []).length : Int) ≤ 256) :
    sameL (canoF orB (growL (clampI m 0 1048576) (els (canoF orB (growL (clampI n 0 1048576) (els a)) []))) []) (canoF orB (growL (clampI (IntKind.i64.wrap (n + m)) 0 1048576) (els a)) []) = true ∧
      ((canoF notB a (canoF orB (growL (clampI n 0 1048576) (els a)) [])).length : Int) = 0 := by
  obtain ⟨⟨⟨h0, h1⟩, h2⟩, h3⟩ := hc
  rw [w64 (by omega) (by omega)] at h3
  rw [w64 (n := n + m) (by omega) (by omega), show clampI n 0 1048576 = n from by unfold clampI; omega, show clampI m 0 1048576 = m from by unfold clampI; omega, show clampI (n + m) 0 1048576 = n + m from by unfold clampI; omega]
  rw [show clampI n 0 1048576 = n from by unfold clampI; omega] at hl
  refine ⟨?_, ?_⟩
  · rw [sameL, decide_eq_true_eq]
    exact grow_two h0 h1 h2 h3 (by unfold growC; omega)
  · have := grow_minus (a := a) h0 h1 (by unfold growC; omega)
    rw [growC] at this
    rw [this]; rfl
end Go.Rect

