import Derived.Test.YtfpimhkkknfmcaaRectA
namespace Go.Rect
open Go.Eng
/-! ### The plain laws 8 to 11 -/
theorem empty_z : emptyB zR = true := rfl
/-- The intersection, in two cases. -/
theorem meet_cases (a b : Rc) : (meetR a b = zR ∧ (emptyB a = true ∨ emptyB b = true ∨ min (a.x + a.w) (b.x + b.w) ≤ max a.x b.x ∨ min (a.y + a.h) (b.y + b.h) ≤ max a.y b.y)) ∨
    (emptyB a = false ∧ emptyB b = false ∧ emptyB (meetR a b) = false ∧ (meetR a b).x = max a.x b.x ∧ (meetR a b).y = max a.y b.y ∧
      (meetR a b).w = min (a.x + a.w) (b.x + b.w) - max a.x b.x ∧ (meetR a b).h = min (a.y + a.h) (b.y + b.h) - max a.y b.y) := by
  cases ha : emptyB a
  · cases hb : emptyB b
    · have h1 := empty_spec.1 ha; have h2 := empty_spec.1 hb
      have e : meetR a b = betweenR (max a.x b.x) (max a.y b.y) (min (a.x + a.w) (b.x + b.w)) (min (a.y + a.h) (b.y + b.h)) := by simp [meetR, ha, hb]
      by_cases hc : min (a.x + a.w) (b.x + b.w) ≤ max a.x b.x ∨ min (a.y + a.h) (b.y + b.h) ≤ max a.y b.y
      · left; refine ⟨?_, .inr (.inr hc)⟩
        rw [e, betweenR, if_pos (by omega)]
      · right
        have e2 : meetR a b = ⟨max a.x b.x, max a.y b.y, min (a.x + a.w) (b.x + b.w) - max a.x b.x, min (a.y + a.h) (b.y + b.h) - max a.y b.y⟩ := by
          rw [e, betweenR, if_neg (by omega)]
          apply Rc.ext'; simp only; omega
        refine ⟨rfl, rfl, ?_, ?_⟩
        · rw [empty_spec, e2]; simp only; omega
        · rw [e2]; simp
    · left; exact ⟨by simp [meetR, hb], .inr (.inl rfl)⟩
  · left; exact ⟨by simp [meetR, ha], .inl rfl⟩
theorem meet_z1 (a : Rc) : meetR zR a = zR := by simp [meetR, empty_z]
theorem meet_z2 (a : Rc) : meetR a zR = zR := by simp [meetR, empty_z]
/-- A rectangle that is not empty, by its pixels. -/
theorem has_spec {r : Rc} {p : Pt} : hasB r p = true ↔ emptyB r = false ∧ r.x ≤ p.x ∧ p.x < r.x + r.w ∧ r.y ≤ p.y ∧ p.y < r.y + r.h := by
  simp only [hasB, Bool.and_eq_true, decide_eq_true_eq, valid_spec, empty_spec]; omega
def canB (r : Rc) : Prop := emptyB r = true → r = zR
theorem can_meet (a b : Rc) : canB (meetR a b) := by
  intro h
  rcases meet_cases a b with ⟨e, _⟩ | ⟨_, _, h3, _⟩
  · exact e
  · rw [h] at h3; cases h3
theorem can_ne {r : Rc} (h : emptyB r = false) : canB r := fun h' => by rw [h] at h'; cases h'
theorem has_ext {r s : Rc} (hr : canB r) (hs : canB s) (h : ∀ p, hasB r p = hasB s p) : r = s := by
  cases er : emptyB r
  · have b1 := empty_spec.1 er
    have c1 : hasB r ⟨r.x, r.y⟩ = true := has_spec.2 ⟨er, by simp only; omega⟩
    have c2 : hasB r ⟨r.x + r.w - 1, r.y + r.h - 1⟩ = true := has_spec.2 ⟨er, by simp only; omega⟩
    rw [h] at c1 c2
    have d1 := has_spec.1 c1; have d2 := has_spec.1 c2
    have es := d1.1
    have b2 := empty_spec.1 es
    have c3 : hasB s ⟨s.x, s.y⟩ = true := has_spec.2 ⟨es, by simp only; omega⟩
    have c4 : hasB s ⟨s.x + s.w - 1, s.y + s.h - 1⟩ = true := has_spec.2 ⟨es, by simp only; omega⟩
    rw [← h] at c3 c4
    have d3 := has_spec.1 c3; have d4 := has_spec.1 c4
    simp only at d1 d2 d3 d4
    exact Rc.ext' ⟨by omega, by omega, by omega, by omega⟩
  · cases es : emptyB s
    · have b2 := empty_spec.1 es
      have c3 : hasB s ⟨s.x, s.y⟩ = true := has_spec.2 ⟨es, by simp only; omega⟩
      rw [← h] at c3
      have := (has_spec.1 c3).1
      rw [er] at this; cases this
    · rw [hr er, hs es]
theorem meet_has (a b : Rc) (p : Pt) : hasB (meetR a b) p = (hasB a p && hasB b p) := by
  rw [Bool.eq_iff_iff, Bool.and_eq_true, has_spec, has_spec, has_spec]
  rcases meet_cases a b with ⟨e, h⟩ | ⟨h1, h2, h3, h4, h5, h6, h7⟩
  · rw [e]
    constructor
    · intro h'; exact absurd h'.1 (by decide)
    · intro ⟨⟨g1, g2⟩, ⟨g3, g4⟩⟩
      simp only [g1, g3, Bool.false_eq_true, false_or] at h; omega
  · simp only [h1, h2, h3, h4, h5, h6, h7, true_and]; omega
theorem meet_comm (a b : Rc) : meetR a b = meetR b a := has_ext (can_meet _ _) (can_meet _ _) fun p => by rw [meet_has, meet_has, Bool.and_comm]
theorem meet_assoc (a b c : Rc) : meetR (meetR a b) c = meetR a (meetR b c) := has_ext (can_meet _ _) (can_meet _ _) fun p => by simp only [meet_has, Bool.and_assoc]
theorem meet_self {a : Rc} (h : emptyB a = false) : meetR a a = a := by
  have := empty_spec.1 h
  rcases meet_cases a a with ⟨e, h'⟩ | ⟨h1, h2, h3, h4⟩
  · simp only [h, Bool.false_eq_true, false_or] at h'; omega
  · exact Rc.ext' ⟨by omega, by omega, by omega, by omega⟩
theorem meet_idem (a b : Rc) : meetR (meetR a b) (meetR a b) = meetR a b := by
  rcases meet_cases a b with ⟨e, h⟩ | ⟨h1, h2, h3, h4⟩
  · rw [e]; rfl
  · exact meet_self h3
theorem within_spec {a b : Rc} : withinB a b = true ↔ emptyB a = true ∨ (emptyB b = false ∧ b.x ≤ a.x ∧ a.x + a.w ≤ b.x + b.w ∧ b.y ≤ a.y ∧ a.y + a.h ≤ b.y + b.h) := by
  simp only [withinB, Bool.or_eq_true, Bool.and_eq_true, Bool.not_eq_true', decide_eq_true_eq, and_assoc]
theorem meet_in1 (a b : Rc) : withinB (meetR a b) a = true := by
  rw [within_spec]
  rcases meet_cases a b with ⟨e, h⟩ | ⟨h1, h2, h3, h4⟩
  · rw [e]; exact .inl rfl
  · exact .inr ⟨h1, by omega⟩
theorem meet_in2 (a b : Rc) : withinB (meetR a b) b = true := by rw [meet_comm]; exact meet_in1 b a
theorem meet_within {a b : Rc} (h : emptyB a = false) (hw : withinB a b = true) : meetR a b = a := by
  rw [within_spec] at hw
  rcases hw with hw | ⟨hb, hw⟩
  · rw [h] at hw; cases hw
  have := empty_spec.1 h
  rcases meet_cases a b with ⟨e, h'⟩ | ⟨h1, h2, h3, h4⟩
  · simp only [h, hb, Bool.false_eq_true, false_or] at h'; omega
  · exact Rc.ext' ⟨by omega, by omega, by omega, by omega⟩
theorem join_cases {a : Rc} (b : Rc) (h : emptyB a = false) : (emptyB b = true ∧ joinR a b = a) ∨ (emptyB b = false ∧ emptyB (joinR a b) = false ∧ (joinR a b).x = min a.x b.x ∧ (joinR a b).y = min a.y b.y ∧
    (joinR a b).w = max (a.x + a.w) (b.x + b.w) - min a.x b.x ∧ (joinR a b).h = max (a.y + a.h) (b.y + b.h) - min a.y b.y) := by
  cases hb : emptyB b
  · right
    have h1 := empty_spec.1 h; have h2 := empty_spec.1 hb
    have e2 : joinR a b = ⟨min a.x b.x, min a.y b.y, max (a.x + a.w) (b.x + b.w) - min a.x b.x, max (a.y + a.h) (b.y + b.h) - min a.y b.y⟩ := by
      simp only [joinR, h, hb, Bool.and_self, Bool.false_eq_true, if_false]
      rw [betweenR, if_neg (by omega)]
      apply Rc.ext'; simp only; omega
    refine ⟨rfl, ?_, ?_⟩
    · rw [empty_spec, e2]; simp only; omega
    · rw [e2]; simp
  · left; exact ⟨rfl, by simp [joinR, h, hb]⟩
theorem meet_join {a b : Rc} (h : emptyB a = false) : meetR a (joinR a b) = a := by
  apply meet_within h
  rw [within_spec]; right
  rcases join_cases b h with ⟨_, e⟩ | ⟨_, h1, h2⟩
  · rw [e]; exact ⟨h, by omega⟩
  · exact ⟨h1, by omega⟩

/-! ### The pieces of Minus -/
theorem area_nn {r : Rc} (h : (-1048576 ≤ r.x ∧ r.x ≤ 1048576 ∧ 0 ≤ r.w ∧ r.w ≤ 1048576 - r.x) ∧ (-1048576 ≤ r.y ∧ r.y ≤ 1048576 ∧ 0 ≤ r.h ∧ r.h ≤ 1048576 - r.y)) : areaI r = r.w * r.h := by
  cases e : emptyB r
  · simp [areaI, e]
  · have := empty_true.1 e
    simp only [areaI, e, if_true]
    by_cases hw : r.w = 0
    · rw [hw]; simp
    · have : r.h = 0 := by omega
      rw [this]; simp
theorem area_sum {l : List Rc} : (((l.filter fun p => !emptyB p)).map areaI).sum = (l.map areaI).sum := by
  induction l with
  | nil => rfl
  | cons a l ih =>
    cases e : emptyB a
    · simp [e, ih]
    · simp [e, ih, areaI]
theorem apart_of {x y : Rc} (h : x.x + x.w ≤ y.x ∨ y.x + y.w ≤ x.x ∨ x.y + x.h ≤ y.y ∨ y.y + y.h ≤ x.y) : emptyB (meetR x y) = true := by
  rcases meet_cases x y with ⟨e, _⟩ | ⟨g1, g2, g3, g4, g5, g6, g7⟩
  · rw [e]; rfl
  · have k4 := empty_spec.1 g3; omega
theorem empty_no {r : Rc} (h : ∀ p, hasB r p = false) : emptyB r = true := by
  cases e : emptyB r
  · have := empty_spec.1 e
    have c : hasB r ⟨r.x, r.y⟩ = true := has_spec.2 ⟨e, by simp only; omega⟩
    rw [h] at c; cases c
  · rfl
theorem no_empty {r : Rc} (h : emptyB r = true) (p : Pt) : hasB r p = false := by
  cases e : hasB r p
  · rfl
  · have := (has_spec.1 e).1; rw [h] at this; cases this
theorem within_has {x a : Rc} {p : Pt} (hw : withinB x a = true) (hx : hasB x p = true) : hasB a p = true := by
  have h1 := has_spec.1 hx
  rcases within_spec.1 hw with h | ⟨h, h2⟩
  · rw [h1.1] at h; cases h
  · exact has_spec.2 ⟨h, by omega⟩
theorem piece_off {x a b : Rc} (hw : withinB x a = true) (h : emptyB (meetR x (meetR a b)) = true) : emptyB (meetR x b) = true := by
  apply empty_no; intro p
  have := no_empty h p
  rw [meet_has, meet_has] at this
  rw [meet_has]
  cases hx : hasB x p
  · rfl
  · rw [hx, within_has hw hx] at this; simpa using this
/-- What holds of all pieces. -/
theorem minus_mem {a b x : Rc} (h : x ∈ minusL a b) : emptyB x = false ∧ withinB x a = true ∧ emptyB (meetR x b) = true := by
  unfold minusL at h
  split at h
  · simp at h
  rename_i ha
  have ha : emptyB a = false := by simpa using ha
  split at h
  · rename_i hm
    simp at h; subst h
    exact ⟨ha, within_spec.2 (.inr ⟨ha, by omega⟩), hm⟩
  · rename_i hm
    have hm : emptyB (meetR a b) = false := by simpa using hm
    rcases meet_cases a b with ⟨e, _⟩ | ⟨h1, h2, h3, h4, h5, h6, h7⟩
    · rw [e] at hm; cases hm
    have k1 := empty_spec.1 h1; have k2 := empty_spec.1 h2; have k3 := empty_spec.1 hm
    simp only [List.mem_filter, List.mem_cons, List.not_mem_nil, or_false, Bool.not_eq_true'] at h
    obtain ⟨h, hx⟩ := h
    have hw : withinB x a = true := within_spec.2 (.inr ⟨ha, by rcases h with rfl | rfl | rfl | rfl <;> simp only [part0, part1, part2, part3] <;> omega⟩)
    refine ⟨hx, hw, piece_off hw (apart_of ?_)⟩
    rcases h with rfl | rfl | rfl | rfl <;> simp only [part0, part1, part2, part3] <;> omega
theorem minus_pair (a b : Rc) : (minusL a b).Pairwise fun x y => emptyB (meetR y x) = true := by
  unfold minusL
  split
  · exact .nil
  split
  · exact List.pairwise_singleton _ _
  · rename_i ha hm
    have hm : emptyB (meetR a b) = false := by simpa using hm
    rcases meet_cases a b with ⟨e, _⟩ | ⟨h1, h2, h3, h4, h5, h6, h7⟩
    · rw [e] at hm; cases hm
    have k1 := empty_spec.1 h1; have k3 := empty_spec.1 hm
    apply List.Pairwise.filter
    refine List.Pairwise.cons ?_ (List.Pairwise.cons ?_ (List.Pairwise.cons ?_ (List.Pairwise.cons ?_ .nil)))
    all_goals (intro y hy; simp only [List.mem_cons, List.not_mem_nil, or_false] at hy)
    · rcases hy with rfl | rfl | rfl <;> (apply apart_of; simp only [part0, part1, part2, part3]; omega)
    · rcases hy with rfl | rfl <;> (apply apart_of; simp only [part0, part1, part2, part3]; omega)
    · rcases hy with rfl; apply apart_of; simp only [part0, part1, part2, part3]; omega
    
theorem minus_sum (a b : Rc) : areaI (meetR a b) + ((minusL a b).map areaI).sum = areaI a := by
  unfold minusL
  split
  · rename_i ha
    have e : meetR a b = zR := by simp [meetR, ha]
    rw [e]; simp [areaI, ha, empty_z]
  split
  · rename_i ha hm
    simp [areaI, hm]
  · rename_i ha hm
    have hm : emptyB (meetR a b) = false := by simpa using hm
    rcases meet_cases a b with ⟨e, _⟩ | ⟨h1, h2, h3, h4, h5, h6, h7⟩
    · rw [e] at hm; cases hm
    have k1 := empty_spec.1 h1; have k2 := empty_spec.1 h2; have k3 := empty_spec.1 hm
    rw [area_sum]
    generalize meetR a b = m at *
    simp only [List.map_cons, List.map_nil, List.sum_cons, List.sum_nil]
    rw [area_nn (r := m) (by omega), area_nn (r := a) (by omega), area_nn (r := part0 a m) (by simp only [part0]; omega), area_nn (r := part1 a m) (by simp only [part1]; omega), area_nn (r := part2 a m) (by simp only [part2]; omega), area_nn (r := part3 a m) (by simp only [part3]; omega)]
    simp only [part0, part1, part2, part3]
    simp only [Int.mul_sub, Int.sub_mul, Int.mul_add, Int.add_mul]
    omega
theorem minus_len (a b : Rc) : (minusL a b).length ≤ 4 := by
  unfold minusL
  split
  · simp
  split
  · simp
  · exact Nat.le_trans (List.length_filter_le _ _) (by simp)
def sumK (a b : Rc) (k : Nat) : Int := areaI (meetR a b) + (((minusL a b).take k).map areaI).sum

theorem lt1 {a b c : Rc} (hc : ((meetR a b).x == (meetR b a).x && ((meetR a b).y == (meetR b a).y && ((meetR a b).w == (meetR b a).w && (meetR a b).h == (meetR b a).h))) = false ∨
    ((meetR (meetR a b) c).x == (meetR a (meetR b c)).x && ((meetR (meetR a b) c).y == (meetR a (meetR b c)).y && ((meetR (meetR a b) c).w == (meetR a (meetR b c)).w && (meetR (meetR a b) c).h == (meetR a (meetR b c)).h))) = false) : False := by
  rw [meet_assoc a b c, meet_comm b a] at hc; simp at hc
theorem lt2 {a b : Rc} (hc : (((meetR (meetR a b) (meetR a b)).x == (meetR a b).x && ((meetR (meetR a b) (meetR a b)).y == (meetR a b).y && ((meetR (meetR a b) (meetR a b)).w == (meetR a b).w && (meetR (meetR a b) (meetR a b)).h == (meetR a b).h))) = false ∨
    withinB (meetR a b) a = false) ∨ withinB (meetR a b) b = false) : False := by
  rw [meet_idem, meet_in1, meet_in2] at hc; simp at hc
theorem lt3 (a b : Rc) : emptyB a = true ∨ ((meetR a a).x = a.x ∧ (meetR a a).y = a.y ∧ (meetR a a).w = a.w ∧ (meetR a a).h = a.h) ∧
    (meetR a (joinR a b)).x = a.x ∧ (meetR a (joinR a b)).y = a.y ∧ (meetR a (joinR a b)).w = a.w ∧ (meetR a (joinR a b)).h = a.h := by
  cases h : emptyB a
  · rw [meet_self h, meet_join h]; simp
  · exact .inl rfl
theorem pc0 (a b : Rc) : areaI (meetR a b) = sumK a b 0 := by simp [sumK]
theorem pc1 {a b : Rc} (hc : 4 < ((minusL a b).length : Int)) : False := by have := minus_len a b; omega
theorem getD_mem {α : Type} {l : List α} {k : Nat} {z : α} (h : (k : Int) < (l.length : Int)) : l.getD k z ∈ l := by
  have h : k < l.length := by omega
  rw [List.getD_eq_getElem?_getD, List.getElem?_eq_getElem h]; exact List.getElem_mem h
theorem pc2 {a b : Rc} {k : Nat} (h : (k : Int) < ((minusL a b).length : Int)) (hc : (emptyB ((minusL a b).getD k zR) = true ∨ withinB ((minusL a b).getD k zR) a = false) ∨ emptyB (meetR ((minusL a b).getD k zR) b) = false) : False := by
  obtain ⟨h1, h2, h3⟩ := minus_mem (getD_mem (z := zR) h)
  rw [h1, h2, h3] at hc; simp at hc
theorem areaI_nn (r : Rc) : 0 ≤ areaI r := by
  cases h : emptyB r
  · have := area_bd h; simp [areaI, h]; omega
  · simp [areaI, h]
theorem areaI_le (r : Rc) : areaI r ≤ 4398046511104 := by
  cases h : emptyB r
  · have := area_bd h; simp [areaI, h]; omega
  · simp [areaI, h]
theorem sum_nn {l : List Int} (h : ∀ x ∈ l, 0 ≤ x) : 0 ≤ l.sum := by
  induction l with
  | nil => simp
  | cons a l ih =>
    have := h a (by simp); have := ih fun x hx => h x (by simp [hx])
    simp; omega
theorem take_succ' {α : Type} {l : List α} {k : Nat} {z : α} (h : (k : Int) < (l.length : Int)) : l.take (k + 1) = l.take k ++ [l.getD k z] := by
  have h : k < l.length := by omega
  rw [List.take_add_one, List.getD_eq_getElem?_getD, List.getElem?_eq_getElem h]; rfl
theorem sum_take {l : List Int} (h : ∀ x ∈ l, 0 ≤ x) (k : Nat) : 0 ≤ (l.take k).sum ∧ (l.take k).sum ≤ l.sum := by
  refine ⟨sum_nn fun x hx => h x (List.mem_of_mem_take hx), ?_⟩
  have e : l.sum = (l.take k).sum + (l.drop k).sum := by rw [← List.sum_append, List.take_append_drop]
  have := sum_nn (l := l.drop k) fun x hx => h x (List.mem_of_mem_drop hx)
  omega
theorem sumK_bd (a b : Rc) (k : Nat) : 0 ≤ sumK a b k ∧ sumK a b k ≤ 4398046511104 := by
  have h := sum_take (l := (minusL a b).map areaI) (fun x hx => by obtain ⟨y, _, rfl⟩ := List.mem_map.1 hx; exact areaI_nn y) k
  have := minus_sum a b; have := areaI_le a; have := areaI_nn (meetR a b)
  rw [← List.map_take] at h
  unfold sumK; omega
theorem pc5 {a b : Rc} {k : Nat} (h : (k : Int) < ((minusL a b).length : Int)) : IntKind.i64.wrap (sumK a b k + areaI ((minusL a b).getD k zR)) = sumK a b (k + 1) := by
  have h1 := sumK_bd a b k; have h2 := areaI_le ((minusL a b).getD k zR); have h3 := areaI_nn ((minusL a b).getD k zR)
  rw [w64 (by omega) (by omega)]
  simp only [sumK, take_succ' (z := zR) h, List.map_append, List.sum_append, List.map_cons, List.map_nil, List.sum_cons, List.sum_nil]; omega
theorem pc4 {a b : Rc} {k : Nat} (hI : k ≤ (minusL a b).length) (hc : ((minusL a b).length : Int) ≤ (k : Int)) : sumK a b k = areaI a := by
  rw [sumK, List.take_of_length_le (by omega)]; exact minus_sum a b
theorem pc3 {a b : Rc} {k j : Nat} (hJ : j ≤ k) (h : (k : Int) < ((minusL a b).length : Int)) (h' : (j : Int) < (((minusL a b).take k).length : Int)) (hc : emptyB (meetR ((minusL a b).getD k zR) (((minusL a b).take k).getD j zR)) = false) : False := by
  have e : ((minusL a b).take k).length = k := by rw [List.length_take]; omega
  rw [e] at h'
  have p := List.pairwise_iff_getElem.1 (minus_pair a b) j k (by omega) (by omega) (by omega)
  have e1 : (minusL a b).getD k zR = (minusL a b)[k]'(by omega) := by rw [List.getD_eq_getElem?_getD, List.getElem?_eq_getElem (by omega)]; rfl
  have e2 : ((minusL a b).take k).getD j zR = (minusL a b)[j]'(by omega) := by
    rw [List.getD_eq_getElem?_getD, List.getElem?_take_of_lt (by omega), List.getElem?_eq_getElem (by omega)]; rfl
  rw [e1, e2, p] at hc; cases hc
theorem pc6 {l : List Rc} {k j : Nat} (hJ : j ≤ k) (h' : (j : Int) < ((l.take k).length : Int)) : j + 1 ≤ k := by
  rw [List.length_take] at h'; omega
theorem pc7 {l : List Rc} {k j : Nat} (h' : (j : Int) < ((l.take k).length : Int)) : k - (j + 1) < k - j := by
  rw [List.length_take] at h'; omega
/-! ### The tiles of a rectangle -/
def arT (r : Rc) (t : Pt) : Int := areaI (meetR (ofTileR t) r)
def sumT (r : Rc) (k : Nat) : Int := (((tilesL r).take k).map (arT r)).sum
def ov (x w t : Int) : Int := min (16 * t + 16) (x + w) - max (16 * t) x
def pre (x w : Int) (n : Nat) : Int := max 0 (min (16 * (tileI x + n)) (x + w) - x)
theorem pre_succ {x w : Int} {n : Nat} (hw : 0 < w) (hn : tileI x + n ≤ tileI (x + w - 1)) : pre x w (n + 1) = pre x w n + ov x w (tileI x + n) := by
  unfold pre ov tileI at *; omega
theorem pre_all {x w : Int} {n : Nat} (hw : 0 < w) (hn : (n : Int) = tileI (x + w - 1) - tileI x + 1) : pre x w n = w := by
  unfold pre tileI at *; omega
theorem arT_in {r : Rc} {t : Pt} (h : emptyB r = false) (hx : tileI r.x ≤ t.x ∧ t.x ≤ tileI (r.x + r.w - 1)) (hy : tileI r.y ≤ t.y ∧ t.y ≤ tileI (r.y + r.h - 1)) :
    arT r t = ov r.x r.w t.x * ov r.y r.h t.y ∧ 0 < ov r.x r.w t.x ∧ 0 < ov r.y r.h t.y := by
  have b := empty_spec.1 h
  have o1 : 0 < ov r.x r.w t.x := by unfold ov tileI at *; omega
  have o2 : 0 < ov r.y r.h t.y := by unfold ov tileI at *; omega
  refine ⟨?_, o1, o2⟩
  have e : ofTileR t = ⟨t.x * 16, t.y * 16, 16, 16⟩ := by
    rw [ofTileR, if_neg]; unfold tileI at *; omega
  have ne : emptyB (⟨t.x * 16, t.y * 16, 16, 16⟩ : Rc) = false := by
    rw [empty_spec]; simp only; unfold tileI at *; omega
  rw [arT, e]
  rcases meet_cases ⟨t.x * 16, t.y * 16, 16, 16⟩ r with ⟨_, h'⟩ | ⟨_, _, h3, h4, h5, h6, h7⟩
  · simp only [h, ne, Bool.false_eq_true, false_or] at h'
    unfold ov at o1 o2; omega
  · rw [areaI, if_neg (by simp [h3]), h6, h7]
    simp only
    congr 1 <;> (unfold ov; omega)
theorem row_sum {r : Rc} (h : emptyB r = false) {y : Int} (hy : tileI r.y ≤ y ∧ y ≤ tileI (r.y + r.h - 1)) : ∀ (n : Nat), tileI r.x + n ≤ tileI (r.x + r.w - 1) + 1 → ((rowL y (tileI r.x) n).map (arT r)).sum = pre r.x r.w n * ov r.y r.h y
  | 0, _ => by
    have : pre r.x r.w 0 = 0 := by unfold pre tileI; omega
    simp [rowL, this]
  | n + 1, hn => by
    have b := empty_spec.1 h
    have ih := row_sum h hy n (by omega)
    have e : rowL y (tileI r.x) (n + 1) = rowL y (tileI r.x) n ++ [⟨tileI r.x + n, y⟩] := by simp [rowL, List.range_succ]
    rw [e, List.map_append, List.sum_append, ih, pre_succ (by omega) (by omega)]
    simp only [List.map_cons, List.map_nil, List.sum_cons, List.sum_nil, Int.add_zero]
    rw [(arT_in (t := ⟨tileI r.x + n, y⟩) h ⟨by simp only; omega, by simp only; omega⟩ hy).1, Int.add_mul]
theorem grid_sum {r : Rc} (h : emptyB r = false) : ∀ (m : Nat), tileI r.y + m ≤ tileI (r.y + r.h - 1) + 1 → ((gridL (tileI r.x) (tileI r.y) (NX r) m).map (arT r)).sum = r.w * pre r.y r.h m
  | 0, _ => by
    have : pre r.y r.h 0 = 0 := by unfold pre tileI; omega
    simp [gridL, this]
  | m + 1, hm => by
    have b := empty_spec.1 h
    have ih := grid_sum h m (by omega)
    have t : (NX r : Int) = tileI (r.x + r.w - 1) - tileI r.x + 1 := by unfold NX tileI; omega
    rw [gridL, List.map_append, List.sum_append, ih, row_sum h ⟨by omega, by omega⟩ _ (by omega), pre_all (n := NX r) (by omega) t, pre_succ (by omega) (by omega), Int.mul_add]
theorem grid_mem {x0 y0 : Int} {n : Nat} {t : Pt} : ∀ {m : Nat}, t ∈ gridL x0 y0 n m → x0 ≤ t.x ∧ t.x < x0 + n ∧ y0 ≤ t.y ∧ t.y < y0 + m
  | 0, h => by simp [gridL] at h
  | m + 1, h => by
    rw [gridL, List.mem_append] at h
    rcases h with h | h
    · have := grid_mem h; omega
    · simp only [rowL, List.mem_map, List.mem_range] at h
      obtain ⟨i, hi, rfl⟩ := h
      simp only; omega
theorem tiles_def {r : Rc} (h : tilesL r ≠ []) : emptyB r = false ∧ tilesL r = gridL (tileI r.x) (tileI r.y) (NX r) (NY r) := by
  unfold tilesL at h ⊢
  split at h
  · simp at h
  split at h
  · simp at h
  · rename_i h1 h2
    have h1 : emptyB r = false := by simpa using h1
    rw [if_neg (by simp [h1]), if_neg h2]
    exact ⟨h1, rfl⟩
theorem NN {r : Rc} (h : emptyB r = false) : (NX r : Int) = tileI (r.x + r.w - 1) - tileI r.x + 1 ∧ (NY r : Int) = tileI (r.y + r.h - 1) - tileI r.y + 1 := by
  have b := empty_spec.1 h
  unfold NX NY tileI; omega
theorem tiles_pos {r : Rc} {t : Pt} (h : t ∈ tilesL r) : 1 ≤ arT r t := by
  obtain ⟨h1, h2⟩ := tiles_def (List.ne_nil_of_mem h)
  rw [h2] at h
  have m := grid_mem h; have n := NN h1
  obtain ⟨e, o1, o2⟩ := arT_in (t := t) h1 ⟨by omega, by omega⟩ ⟨by omega, by omega⟩
  rw [e]; exact Int.mul_pos o1 o2
theorem tiles_sum {r : Rc} (h : tilesL r ≠ []) : ((tilesL r).map (arT r)).sum = areaI r := by
  obtain ⟨h1, h2⟩ := tiles_def h
  have n := NN h1; have b := empty_spec.1 h1
  rw [h2, grid_sum h1 _ (by omega), pre_all (by omega) n.2, areaI, if_neg (by simp [h1])]
theorem grid_len {x0 y0 : Int} {n : Nat} : ∀ {m : Nat}, (gridL x0 y0 n m).length = m * n
  | 0 => by simp [gridL]
  | m + 1 => by simp [gridL, rowL, grid_len (m := m), Nat.add_mul]
theorem cv1 {r : Rc} (hc : 4096 < ((tilesL r).length : Int)) : False := by
  have h : tilesL r ≠ [] := by intro h; rw [h] at hc; simp at hc
  obtain ⟨h1, h2⟩ := tiles_def h
  have h3 : ¬ (tileI (r.x + r.w - 1) - tileI r.x + 1) * (tileI (r.y + r.h - 1) - tileI r.y + 1) > 4096 := by
    intro h3; apply h; unfold tilesL; rw [if_neg (by simp [h1]), if_pos h3]
  have n := NN h1
  rw [h2, grid_len] at hc
  rw [← n.1, ← n.2, ← Int.natCast_mul, Nat.mul_comm] at h3
  omega
theorem cv2 {r : Rc} (hc : ((tilesL r).length : Int) = 0) : (emptyB r = true ∨ 100 < r.w) ∨ 100 < r.h := by
  cases h1 : emptyB r
  · by_cases hw : 100 < r.w
    · exact .inl (.inr hw)
    by_cases hh : 100 < r.h
    · exact .inr hh
    exfalso
    have b := empty_spec.1 h1
    have n := NN h1
    have hx : 1 ≤ NX r ∧ NX r ≤ 10 := by unfold tileI at n; omega
    have hy : 1 ≤ NY r ∧ NY r ≤ 10 := by unfold tileI at n; omega
    have h4 : NX r * NY r ≤ 10 * 10 := Nat.mul_le_mul hx.2 hy.2
    have e : tilesL r = gridL (tileI r.x) (tileI r.y) (NX r) (NY r) := by
      unfold tilesL
      rw [if_neg (by simp [h1]), if_neg]
      · rfl
      · rw [← n.1, ← n.2, ← Int.natCast_mul]; omega
    have h5 : 1 * 1 ≤ NY r * NX r := Nat.mul_le_mul hy.1 hx.1
    rw [e, grid_len] at hc; omega
  · exact .inl (.inl rfl)
theorem cv3 {r : Rc} {k : Nat} (h : (k : Int) < ((tilesL r).length : Int)) (hc : areaI (meetR (ofTileR ((tilesL r).getD k ⟨0, 0⟩)) r) < 1) : False := by
  have := tiles_pos (getD_mem (z := ⟨0, 0⟩) h); unfold arT at this; omega
theorem cv0 (r : Rc) : 0 = sumT r 0 := by simp [sumT]
theorem cv4 {r : Rc} {k : Nat} (hI : k ≤ (tilesL r).length) (hn : ¬ ((tilesL r).length : Int) = 0) (hc : ((tilesL r).length : Int) ≤ (k : Int)) : sumT r k = areaI r := by
  rw [sumT, List.take_of_length_le (by omega)]
  exact tiles_sum fun h => by rw [h] at hn; simp at hn
theorem cv5 {r : Rc} {k : Nat} (h : (k : Int) < ((tilesL r).length : Int)) : IntKind.i64.wrap (sumT r k + areaI (meetR (ofTileR ((tilesL r).getD k ⟨0, 0⟩)) r)) = sumT r (k + 1) := by
  have hn : tilesL r ≠ [] := by intro h'; rw [h'] at h; simp at h; omega
  have h1 := sum_take (l := (tilesL r).map (arT r)) (fun x hx => by obtain ⟨y, _, rfl⟩ := List.mem_map.1 hx; exact areaI_nn _) k
  rw [tiles_sum hn, ← List.map_take] at h1
  have h2 := areaI_le (meetR (ofTileR ((tilesL r).getD k ⟨0, 0⟩)) r); have h3 := areaI_nn (meetR (ofTileR ((tilesL r).getD k ⟨0, 0⟩)) r); have h4 := areaI_le r
  have e : sumT r (k + 1) = sumT r k + areaI (meetR (ofTileR ((tilesL r).getD k ⟨0, 0⟩)) r) := by
    simp only [sumT, take_succ' (z := (⟨0, 0⟩ : Pt)) h, List.map_append, List.sum_append, List.map_cons, List.map_nil, List.sum_cons, List.sum_nil, arT]; omega
  rw [e, w64]
  · unfold sumT; omega
  · unfold sumT; omega
end Go.Rect
