import Derived.Test.YtfpimhkkknfmcaaRectM
set_option linter.unusedVariables false
set_option linter.unusedSectionVars false
namespace Go.Rect
open Go.Eng
theorem span_spec {x w : Int} : spanB x w = true ↔ -1048576 ≤ x ∧ x ≤ 1048576 ∧ 0 ≤ w ∧ w ≤ 1048576 - x := by
  simp only [spanB, Bool.and_eq_true, decide_eq_true_eq, and_assoc]
theorem valid_spec {r : Rc} : validB r = true ↔ (-1048576 ≤ r.x ∧ r.x ≤ 1048576 ∧ 0 ≤ r.w ∧ r.w ≤ 1048576 - r.x) ∧ (-1048576 ≤ r.y ∧ r.y ≤ 1048576 ∧ 0 ≤ r.h ∧ r.h ≤ 1048576 - r.y) := by
  simp only [validB, Bool.and_eq_true, span_spec]
theorem empty_spec {r : Rc} : emptyB r = false ↔ (-1048576 ≤ r.x ∧ r.x ≤ 1048576 ∧ 0 < r.w ∧ r.w ≤ 1048576 - r.x) ∧ (-1048576 ≤ r.y ∧ r.y ≤ 1048576 ∧ 0 < r.h ∧ r.h ≤ 1048576 - r.y) := by
  simp only [emptyB, Bool.or_eq_false_iff, Bool.not_eq_false', valid_spec, beq_eq_false_iff_ne, ne_eq]; omega
theorem empty_true {r : Rc} : emptyB r = true ↔ ¬ ((-1048576 ≤ r.x ∧ r.x ≤ 1048576 ∧ 0 < r.w ∧ r.w ≤ 1048576 - r.x) ∧ (-1048576 ≤ r.y ∧ r.y ≤ 1048576 ∧ 0 < r.h ∧ r.h ≤ 1048576 - r.y)) := by
  rw [← empty_spec]; simp
theorem fin_rv1 {r : Rc} (hc : ((r.x < -1048576 ∨ 1048576 < r.x) ∨ r.y < -1048576) ∨ 1048576 < r.y) : false = validB r := by
  symm; rw [Bool.eq_false_iff]; intro h; have := valid_spec.1 h; omega
theorem fin_rv2 {r : Rc} (hc : ((-1048576 ≤ r.x ∧ r.x ≤ 1048576) ∧ -1048576 ≤ r.y) ∧ r.y ≤ 1048576) : (decide (0 ≤ r.w) && decide (0 ≤ r.h) && decide (r.w ≤ IntKind.i64.wrap (1048576 - r.x)) && decide (r.h ≤ IntKind.i64.wrap (1048576 - r.y))) = validB r := by
  simp (disch := omega) only [w64]; rw [Bool.eq_iff_iff, valid_spec]; simp only [Bool.and_eq_true, decide_eq_true_eq]; omega
theorem fin_has {r : Rc} {p : Pt} : (validB r && decide (r.x ≤ p.x) && decide (p.x < IntKind.i64.wrap (r.x + r.w)) && decide (r.y ≤ p.y) && decide (p.y < IntKind.i64.wrap (r.y + r.h))) = hasB r p := by
  cases hv : validB r
  · simp [hasB, hv]
  · have := valid_spec.1 hv; simp (disch := omega) only [w64]; simp only [hasB, hv]
theorem ne_of {r : Rc} (h : (validB r = true ∧ ¬r.w = 0) ∧ ¬r.h = 0) : emptyB r = false := by
  have := valid_spec.1 h.1.1; rw [empty_spec]; omega
theorem fin_sp1 {r : Rc} {n : Int} (hc : (validB r = false ∨ r.w = 0) ∨ r.h = 0) : 0 = spanS r n ∧ -1 = spanE r n := by
  have : emptyB r = true := by simp only [emptyB, Bool.or_eq_true, beq_iff_eq, Bool.not_eq_true']; exact hc
  simp [spanS, spanE, this]
theorem fin_sp2 {r : Rc} {n : Int} (h : (validB r = true ∧ ¬r.w = 0) ∧ ¬r.h = 0) (hc : n = 0) : r.x = spanS r n ∧ IntKind.i64.wrap (IntKind.i64.wrap (r.x + r.w) - 1) = spanE r n := by
  have h1 := ne_of h; have h2 := empty_spec.1 h1; subst hc; simp (disch := omega) only [w64]; simp [spanS, spanE, h1]
theorem fin_sp3 {r : Rc} {n : Int} (h : (validB r = true ∧ ¬r.w = 0) ∧ ¬r.h = 0) (hc : ¬ n = 0) : r.y = spanS r n ∧ IntKind.i64.wrap (IntKind.i64.wrap (r.y + r.h) - 1) = spanE r n := by
  have h1 := ne_of h; have h2 := empty_spec.1 h1; simp (disch := omega) only [w64]; simp [spanS, spanE, h1, hc]
theorem fin_rhas {r : Rc} {p : Pt} : (decide (spanS r 0 ≤ p.x) && decide (p.x ≤ spanE r 0) && decide (spanS r 1 ≤ p.y) && decide (p.y ≤ spanE r 1)) = hasB r p := by
  rw [Bool.eq_iff_iff]; simp only [hasB, Bool.and_eq_true, decide_eq_true_eq, valid_spec]
  cases h : emptyB r
  · have := empty_spec.1 h; simp only [spanS, spanE, h]; simp; omega
  · have := empty_true.1 h; simp only [spanS, spanE, h]; simp; omega
theorem fin_a1 {r : Rc} (hc : emptyB r = true) : 0 = areaI r := by simp [areaI, hc]
theorem area_bd {r : Rc} (hc : emptyB r = false) : 0 < r.w * r.h ∧ r.w * r.h ≤ 4398046511104 := by
  have h := empty_spec.1 hc
  refine ⟨Int.mul_pos h.1.2.2.1 h.2.2.2.1, ?_⟩
  have h1 : r.w * r.h ≤ 2097152 * r.h := Int.mul_le_mul_of_nonneg_right (by omega) (by omega)
  omega
theorem fin_a2 {r : Rc} (hc : emptyB r = false) : IntKind.i64.wrap (r.w * r.h) = areaI r := by
  have := area_bd hc; rw [w64 (by omega) (by omega)]; simp [areaI, hc]
theorem fin_w1 {a b : Rc} (hc : emptyB a = true) : true = withinB a b := by simp [withinB, hc]
theorem fin_w2 {a b : Rc} (h : emptyB a = false) (hc : emptyB b = true) : false = withinB a b := by simp [withinB, h, hc]
theorem fin_w3 {a b : Rc} (h : emptyB a = false) (hc : emptyB b = false) : (decide (b.x ≤ a.x) && decide (IntKind.i64.wrap (a.x + a.w) ≤ IntKind.i64.wrap (b.x + b.w)) && decide (b.y ≤ a.y) && decide (IntKind.i64.wrap (a.y + a.h) ≤ IntKind.i64.wrap (b.y + b.h))) = withinB a b := by
  have := empty_spec.1 h; have := empty_spec.1 hc; simp (disch := omega) only [w64]; simp [withinB, h, hc]
theorem fin_rw {a b : Rc} (h : emptyB a = false) : (hasB b ⟨spanS a 0, spanS a 1⟩ && hasB b ⟨spanE a 0, spanE a 1⟩) = withinB a b := by
  have h1 := empty_spec.1 h
  simp only [spanS, spanE, h]
  rw [Bool.eq_iff_iff]
  cases hb : emptyB b
  · have h2 := empty_spec.1 hb
    simp only [withinB, h, hb, hasB, Bool.and_eq_true, decide_eq_true_eq, valid_spec, Bool.false_or, Bool.not_false, Bool.true_and]; simp; omega
  · have h2 := empty_true.1 hb
    simp only [withinB, h, hb, hasB, Bool.and_eq_true, decide_eq_true_eq, valid_spec, Bool.false_or, Bool.not_true, Bool.false_and]; simp; omega
theorem fe {r r' : Rc} (h : r = r') : r.x = r'.x ∧ r.y = r'.y ∧ r.w = r'.w ∧ r.h = r'.h := by subst h; exact ⟨rfl, rfl, rfl, rfl⟩
theorem Rc.ext' {r r' : Rc} (h : r.x = r'.x ∧ r.y = r'.y ∧ r.w = r'.w ∧ r.h = r'.h) : r = r' := by
  cases r; cases r'; simpa using h
theorem fin_b1 {x0 y0 x1 y1 : Int} (hc : min x1 1048576 ≤ max x0 (-1048576) ∨ min y1 1048576 ≤ max y0 (-1048576)) : zR = betweenR x0 y0 x1 y1 := by rw [betweenR, if_pos hc]
theorem fin_b2 {x0 y0 x1 y1 : Int} (hc : max x0 (-1048576) < min x1 1048576 ∧ max y0 (-1048576) < min y1 1048576) :
    (⟨max x0 (-1048576), max y0 (-1048576), IntKind.i64.wrap (min x1 1048576 - max x0 (-1048576)), IntKind.i64.wrap (min y1 1048576 - max y0 (-1048576))⟩ : Rc) = betweenR x0 y0 x1 y1 := by
  rw [betweenR, if_neg (by omega), w64 (by omega) (by omega), w64 (by omega) (by omega)]
theorem fin_o1 {x0 x1 y0 y1 : Int} (hc : x1 < x0 ∨ y1 < y0) : zR = ofR x0 x1 y0 y1 := by rw [ofR, if_pos hc]
theorem fin_o2 {x0 x1 y0 y1 : Int} (h1 : -4611686018427387904 ≤ x0) (h2 : x1 ≤ 4611686018427387900) (h3 : -4611686018427387904 ≤ y0) (h4 : y1 ≤ 4611686018427387900) (hc : x0 ≤ x1 ∧ y0 ≤ y1) :
    (⟨x0, y0, IntKind.i64.wrap (IntKind.i64.wrap (x1 - x0) + 1), IntKind.i64.wrap (IntKind.i64.wrap (y1 - y0) + 1)⟩ : Rc) = ofR x0 x1 y0 y1 := by
  rw [ofR, if_neg (by omega), w64 (n := x1 - x0) (by omega) (by omega), w64 (n := y1 - y0) (by omega) (by omega), w64 (by omega) (by omega), w64 (by omega) (by omega)]
theorem sp_bd (r : Rc) (n : Int) : -1048576 ≤ spanS r n ∧ spanS r n ≤ 1048576 ∧ -1048577 ≤ spanE r n ∧ spanE r n ≤ 1048576 := by
  unfold spanS spanE
  cases h : emptyB r
  · have := empty_spec.1 h; simp only [Bool.false_eq_true, if_false]; split <;> omega
  · simp
theorem sp_ne {r : Rc} (h : emptyB r = false) : spanS r 0 = r.x ∧ spanE r 0 = r.x + r.w - 1 ∧ spanS r 1 = r.y ∧ spanE r 1 = r.y + r.h - 1 := by simp [spanS, spanE, h]
theorem fin_t {n : Int} (h1 : -1048576 ≤ n) (h2 : n ≤ 4194304) : IntKind.i64.wrap (IntKind.i64.wrap ((IntKind.i64.wrap (n + 1048576)).tdiv 16) - 65536) = tileI n := by
  rw [w64 (n := n + 1048576) (by omega) (by omega), Int.tdiv_eq_ediv_of_nonneg (by omega), w64 (n := (n + 1048576) / 16) (by omega) (by omega), w64 (by omega) (by omega), tileI]
theorem fin_m1 {a b : Rc} (hc : emptyB a = true ∨ emptyB b = true) : zR = meetR a b := by rw [meetR, if_pos (by simpa using hc)]
theorem fin_m2 {a b : Rc} (hc : emptyB a = false ∧ emptyB b = false) : betweenR (max a.x b.x) (max a.y b.y) (min (IntKind.i64.wrap (a.x + a.w)) (IntKind.i64.wrap (b.x + b.w))) (min (IntKind.i64.wrap (a.y + a.h)) (IntKind.i64.wrap (b.y + b.h))) = meetR a b := by
  have := empty_spec.1 hc.1; have := empty_spec.1 hc.2
  simp (disch := omega) only [w64]; rw [meetR, if_neg (by simp [hc])]
theorem fin_m3 {a b : Rc} (hc : emptyB a = false ∧ emptyB b = false) : ofR (max (spanS a 0) (spanS b 0)) (min (spanE a 0) (spanE b 0)) (max (spanS a 1) (spanS b 1)) (min (spanE a 1) (spanE b 1)) = meetR a b := by
  have h1 := empty_spec.1 hc.1; have h2 := empty_spec.1 hc.2
  obtain ⟨e1, e2, e3, e4⟩ := sp_ne hc.1; obtain ⟨f1, f2, f3, f4⟩ := sp_ne hc.2
  rw [meetR, if_neg (by simp [hc]), e1, e2, e3, e4, f1, f2, f3, f4, ofR, betweenR]
  split
  · rw [if_pos (by omega)]
  · rw [if_neg (by omega)]; apply Rc.ext'; simp only; omega
theorem fin_j1 {a b : Rc} (hc : emptyB a = true ∧ emptyB b = true) : zR = joinR a b := by rw [joinR, if_pos (by simpa using hc)]
theorem fin_j2 {a b : Rc} (h : (emptyB a && emptyB b) = false) (hc : emptyB a = true) : b = joinR a b := by
  have : emptyB b = false := by simp_all
  simp [joinR, hc, this]
theorem fin_j3 {a b : Rc} (h : emptyB a = false) (hc : emptyB b = true) : a = joinR a b := by simp [joinR, hc, h]
theorem fin_j4 {a b : Rc} (ha : emptyB a = false) (hb : emptyB b = false) : betweenR (min a.x b.x) (min a.y b.y) (max (IntKind.i64.wrap (a.x + a.w)) (IntKind.i64.wrap (b.x + b.w))) (max (IntKind.i64.wrap (a.y + a.h)) (IntKind.i64.wrap (b.y + b.h))) = joinR a b := by
  have := empty_spec.1 ha; have := empty_spec.1 hb
  simp (disch := omega) only [w64]; simp [joinR, ha, hb]
theorem ax_join {x w x' w' : Int} (h1 : -1048576 ≤ x) (h2 : 0 < w) (h3 : w ≤ 1048576 - x) (k1 : -1048576 ≤ x') (k2 : 0 < w') (k3 : w' ≤ 1048576 - x') :
    (¬ max (x + w - 1) (x' + w' - 1) < min x x' ∧ ¬ min (max (x + w) (x' + w')) 1048576 ≤ max (min x x') (-1048576)) ∧ min x x' = max (min x x') (-1048576) ∧
      max (x + w - 1) (x' + w' - 1) - min x x' + 1 = min (max (x + w) (x' + w')) 1048576 - max (min x x') (-1048576) := by
  refine ⟨⟨?_, ?_⟩, ?_, ?_⟩ <;> omega
theorem fin_j5 {a b : Rc} (ha : emptyB a = false) (hb : emptyB b = false) : ofR (min (spanS a 0) (spanS b 0)) (max (spanE a 0) (spanE b 0)) (min (spanS a 1) (spanS b 1)) (max (spanE a 1) (spanE b 1)) = joinR a b := by
  have h1 := empty_spec.1 ha; have h2 := empty_spec.1 hb
  obtain ⟨e1, e2, e3, e4⟩ := sp_ne ha; obtain ⟨f1, f2, f3, f4⟩ := sp_ne hb
  simp only [joinR, ha, hb, Bool.and_self, Bool.false_eq_true, if_false]
  rw [e1, e2, e3, e4, f1, f2, f3, f4, ofR, betweenR]
  obtain ⟨p1, p2, p3⟩ := ax_join (x := a.x) (w := a.w) (x' := b.x) (w' := b.w) (by omega) (by omega) (by omega) (by omega) (by omega) (by omega)
  obtain ⟨q1, q2, q3⟩ := ax_join (x := a.y) (w := a.h) (x' := b.y) (w' := b.h) (by omega) (by omega) (by omega) (by omega) (by omega) (by omega)
  rw [if_neg (by omega), if_neg (by omega)]
  apply Rc.ext'; simp only; exact ⟨p2, q2, p3, q3⟩
theorem lim4_bd (n : Int) : -4194304 ≤ lim4 n ∧ lim4 n ≤ 4194304 := by unfold lim4; omega
theorem lim34 (n : Int) : lim3 n = lim4 n ∨ (3145728 ≤ lim3 n ∧ 3145728 ≤ lim4 n) ∨ (lim3 n ≤ -3145728 ∧ lim4 n ≤ -3145728) := by unfold lim3 lim4; omega
theorem lim3_bd (n : Int) : -3145728 ≤ lim3 n ∧ lim3 n ≤ 3145728 := by unfold lim3; omega
theorem fin_z {r : Rc} {p : Pt} (hc : emptyB r = true) : zR = moveR r p := by simp [moveR, hc]
theorem fin_zg {r : Rc} {n : Int} (hc : emptyB r = true) : zR = growR r n := by simp [growR, hc]
theorem fin_mv {r : Rc} {p : Pt} (hc : emptyB r = false) : betweenR (IntKind.i64.wrap (r.x + lim4 p.x)) (IntKind.i64.wrap (r.y + lim4 p.y)) (IntKind.i64.wrap (IntKind.i64.wrap (r.x + lim4 p.x) + r.w)) (IntKind.i64.wrap (IntKind.i64.wrap (r.y + lim4 p.y) + r.h)) = moveR r p := by
  have := empty_spec.1 hc; have := lim4_bd p.x; have := lim4_bd p.y
  simp (disch := omega) only [w64]; simp [moveR, hc]
theorem ax_in {x w l l' : Int} (h1 : -1048576 ≤ x) (h2 : 0 < w) (h3 : w ≤ 1048576 - x) (hl : l = l' ∨ (3145728 ≤ l ∧ 3145728 ≤ l') ∨ (l ≤ -3145728 ∧ l' ≤ -3145728)) (k k' : Int) (hk : k = k' ∨ (3145728 ≤ k ∧ 3145728 ≤ k') ∨ (k ≤ -3145728 ∧ k' ≤ -3145728)) (hs : l = k ∨ l = -k) (hs' : l' = k' ∨ l' = -k') (hm : l = k ↔ l' = k') :
    (min (x + w - 1 + k) 1048575 < max (x + l) (-1048576) ↔ min (x + w + k') 1048576 ≤ max (x + l') (-1048576)) ∧
    (¬ min (x + w - 1 + k) 1048575 < max (x + l) (-1048576) → max (x + l) (-1048576) = max (x + l') (-1048576) ∧ min (x + w - 1 + k) 1048575 - max (x + l) (-1048576) + 1 = min (x + w + k') 1048576 - max (x + l') (-1048576)) := by
  have key : (l = l' ∧ k = k') ∨ (l = l' → k = k' → False) := by
    by_cases h : l = l' ∧ k = k'
    · exact .inl h
    · exact .inr fun a b => h ⟨a, b⟩
  rcases key with ⟨rfl, rfl⟩ | hne
  · clear hl hk hs hs' hm; constructor
    · constructor <;> (intro h; omega)
    · intro h; omega
  · rcases hl with rfl | ⟨a1, a2⟩ | ⟨a1, a2⟩ <;> rcases hk with rfl | ⟨b1, b2⟩ | ⟨b1, b2⟩
    all_goals (constructor <;> first | (constructor <;> (intro h; omega)) | (intro h; omega))
theorem fin_rmv {r : Rc} {p : Pt} (hc : emptyB r = false) : worldR (IntKind.i64.wrap (spanS r 0 + lim3 p.x)) (IntKind.i64.wrap (spanE r 0 + lim3 p.x)) (IntKind.i64.wrap (spanS r 1 + lim3 p.y)) (IntKind.i64.wrap (spanE r 1 + lim3 p.y)) = moveR r p := by
  have h1 := empty_spec.1 hc
  obtain ⟨e1, e2, e3, e4⟩ := sp_ne hc
  have b1 := lim3_bd p.x; have b2 := lim3_bd p.y
  rw [e1, e2, e3, e4]; simp (disch := omega) only [w64]
  obtain ⟨u1, u2⟩ := ax_in (x := r.x) (w := r.w) (l := lim3 p.x) (l' := lim4 p.x) (by omega) (by omega) (by omega) (lim34 _) (lim3 p.x) (lim4 p.x) (lim34 _) (.inl rfl) (.inl rfl) (by simp)
  obtain ⟨v1, v2⟩ := ax_in (x := r.y) (w := r.h) (l := lim3 p.y) (l' := lim4 p.y) (by omega) (by omega) (by omega) (lim34 _) (lim3 p.y) (lim4 p.y) (lim34 _) (.inl rfl) (.inl rfl) (by simp)
  simp only [moveR, hc, Bool.false_eq_true, if_false, worldR, ofR, betweenR]
  rw [show r.x + lim4 p.x + r.w = r.x + r.w + lim4 p.x by omega, show r.y + lim4 p.y + r.h = r.y + r.h + lim4 p.y by omega]
  split
  · rename_i hh; rw [if_pos (hh.imp u1.1 v1.1)]
  · rename_i hh
    have n1 := u2 fun h => hh (.inl h)
    have n2 := v2 fun h => hh (.inr h)
    rw [if_neg (fun h => hh (h.imp u1.2 v1.2))]; apply Rc.ext'; simp only; exact ⟨n1.1, n2.1, n1.2, n2.2⟩
theorem fin_gr {r : Rc} {n : Int} (hc : emptyB r = false) : betweenR (IntKind.i64.wrap (r.x - lim4 n)) (IntKind.i64.wrap (r.y - lim4 n)) (IntKind.i64.wrap (IntKind.i64.wrap (r.x + r.w) + lim4 n)) (IntKind.i64.wrap (IntKind.i64.wrap (r.y + r.h) + lim4 n)) = growR r n := by
  have := empty_spec.1 hc; have := lim4_bd n
  simp (disch := omega) only [w64]; simp [growR, hc]
theorem fin_rgr {r : Rc} {n : Int} (hc : emptyB r = false) : worldR (IntKind.i64.wrap (spanS r 0 - lim3 n)) (IntKind.i64.wrap (spanE r 0 + lim3 n)) (IntKind.i64.wrap (spanS r 1 - lim3 n)) (IntKind.i64.wrap (spanE r 1 + lim3 n)) = growR r n := by
  have h1 := empty_spec.1 hc
  obtain ⟨e1, e2, e3, e4⟩ := sp_ne hc
  have b1 := lim3_bd n
  rw [e1, e2, e3, e4]; simp (disch := omega) only [w64]
  have hl := lim34 n
  have hl' : -lim3 n = -lim4 n ∨ (3145728 ≤ -lim3 n ∧ 3145728 ≤ -lim4 n) ∨ (-lim3 n ≤ -3145728 ∧ -lim4 n ≤ -3145728) := by omega
  obtain ⟨u1, u2⟩ := ax_in (x := r.x) (w := r.w) (l := -lim3 n) (l' := -lim4 n) (by omega) (by omega) (by omega) hl' (lim3 n) (lim4 n) hl (.inr rfl) (.inr rfl) (by omega)
  obtain ⟨v1, v2⟩ := ax_in (x := r.y) (w := r.h) (l := -lim3 n) (l' := -lim4 n) (by omega) (by omega) (by omega) hl' (lim3 n) (lim4 n) hl (.inr rfl) (.inr rfl) (by omega)
  simp only [← Int.sub_eq_add_neg] at u1 u2 v1 v2
  simp only [growR, hc, Bool.false_eq_true, if_false, worldR, ofR, betweenR]
  split
  · rename_i hh; rw [if_pos (hh.imp u1.1 v1.1)]
  · rename_i hh
    have n1 := u2 fun h => hh (.inl h)
    have n2 := v2 fun h => hh (.inr h)
    rw [if_neg (fun h => hh (h.imp u1.2 v1.2))]; apply Rc.ext'; simp only; exact ⟨n1.1, n2.1, n1.2, n2.2⟩
theorem fin_ot1 {p : Pt} (hc : ((p.x < -65536 ∨ 65536 ≤ p.x) ∨ p.y < -65536) ∨ 65536 ≤ p.y) : zR = ofTileR p := by rw [ofTileR, if_pos (by omega)]
theorem fin_ot2 {p : Pt} (hc : ((-65536 ≤ p.x ∧ p.x < 65536) ∧ -65536 ≤ p.y) ∧ p.y < 65536) : (⟨IntKind.i64.wrap (p.x * 16), IntKind.i64.wrap (p.y * 16), 16, 16⟩ : Rc) = ofTileR p := by
  simp (disch := omega) only [w64]; rw [ofTileR, if_neg (by omega)]
theorem wm : IntKind.i64.wrap (0 - 65536) = -65536 := w64 (by omega) (by omega)

section
variable {α : Type} [DecidableEq α] {a b : List α}
theorem sm1 (h : ¬ (a.length : Int) = (b.length : Int)) : false = sameL a b := by
  symm; simp only [sameL, decide_eq_false_iff_not]; intro e; exact h (by rw [e])
theorem sm2 {k : Nat} (z : α) (h : a.getD k z ≠ b.getD k z) : false = sameL a b := by
  symm; simp only [sameL, decide_eq_false_iff_not]; intro e; exact h (by rw [e])
theorem sm5 {k : Nat} (z : α) (hl : (a.length : Int) = (b.length : Int)) (hI : k ≤ a.length ∧ ∀ (j : Nat), j < k → a.getD j z = b.getD j z) (hc : (a.length : Int) ≤ (k : Int)) : true = sameL a b := by
  symm; simp only [sameL, decide_eq_true_eq]
  refine List.ext_getElem (by omega) fun j h1 h2 => ?_
  have := hI.2 j (by omega)
  simpa [List.getD_eq_getElem?_getD, List.getElem?_eq_getElem h1, List.getElem?_eq_getElem h2] using this
theorem sm4 {k j : Nat} (z : α) (hI : ∀ (j : Nat), j < k → a.getD j z = b.getD j z) (hj : j < k + 1) (h : a.getD k z = b.getD k z) : a.getD j z = b.getD j z := by
  by_cases e : j = k
  · rw [e]; exact h
  · exact hI j (by omega)
end
theorem smR {p q : Rc} (h : (p.x == q.x && (p.y == q.y && (p.w == q.w && p.h == q.h))) = false) : p ≠ q := by rintro rfl; simp at h
theorem smP {p q : Pt} (h : (p.x == q.x && p.y == q.y) = false) : p ≠ q := by rintro rfl; simp at h
theorem Pt.ext' {r r' : Pt} (h : r.x = r'.x ∧ r.y = r'.y) : r = r' := by cases r; cases r'; simpa using h

theorem pl_len (l : List Rc) (k : Nat) : (pl l k).length ≤ k := by
  unfold pl; exact Nat.le_trans (List.length_filter_le _ _) (by simp; omega)
theorem w4 {k : Nat} (h : (k : Int) < 1000000) : IntKind.i64.wrap ((k : Int) + 1) = ((k + 1 : Nat) : Int) := by rw [w64 (by omega) (by omega)]; omega
theorem mk1 {a b : Rc} (h : emptyB a = true) : (minusL a b).map rcC = [] := by simp [minusL, h]
theorem mk2 {a b : Rc} (h : emptyB a = false) (h2 : emptyB (meetR a b) = true) : [[D.i a.x, D.i a.y, D.i a.w, D.i a.h]] = (minusL a b).map rcC := by simp [minusL, h, h2, rcC]
section
variable {a b : Rc} {L : List Rc} {k : Nat}
theorem st1 (hL : L.length = 4) (hk : (k : Int) < 4) (h : emptyB (L.getD k zR) = true) : pl L k = pl L (k + 1) := by
  rw [pl_succ (by omega), h]; rfl
theorem st2 (hL : L.length = 4) (hk : (k : Int) < 4) (h : emptyB (L.getD k zR) = false) : pl L k ++ [L.getD k zR] = pl L (k + 1) := by
  rw [pl_succ (by omega), h]; rfl
theorem st3 (hL : L.length = 4) (hk : (k : Int) < 4) (h : emptyB (L.getD k zR) = true) : (pl L k).map rcC = (pl L (k + 1)).map rcC := by rw [st1 hL hk h]
theorem st4 (hL : L.length = 4) (hk : (k : Int) < 4) (h : emptyB (L.getD k zR) = true) : (pl L k).length = (pl L (k + 1)).length := by rw [st1 hL hk h]
theorem st5 (hL : L.length = 4) (hk : (k : Int) < 4) (h : emptyB (L.getD k zR) = false) : (pl L k).map rcC ++ [rcC (L.getD k zR)] = (pl L (k + 1)).map rcC := by rw [← st2 hL hk h]; simp
theorem st6 (hL : L.length = 4) (hk : (k : Int) < 4) (h : emptyB (L.getD k zR) = false) : (pl L k).length + 1 = (pl L (k + 1)).length := by rw [← st2 hL hk h]; simp
theorem st7 (ha : emptyB a = false) (hm : emptyB (meetR a b) = false) (hI : k ≤ 4) (hc : 4 ≤ (k : Int)) : (pl (partsL a (meetR a b)) k).map rcC = (minusL a b).map rcC := by
  have : k = 4 := by omega
  subst this
  simp [minusL, ha, hm, pl, partsL]
/-- The parts as the reference makes them. -/
def partsO (a m : Rc) : List Rc := [ofR a.x (a.x + a.w - 1) a.y (m.y - 1), ofR a.x (m.x - 1) m.y (m.y + m.h - 1), ofR (m.x + m.w) (a.x + a.w - 1) m.y (m.y + m.h - 1), ofR a.x (a.x + a.w - 1) (m.y + m.h) (a.y + a.h - 1)]
theorem filt_congr : ∀ {l l' : List Rc}, l.length = l'.length → (∀ i, (emptyB (l.getD i zR) = true ∧ emptyB (l'.getD i zR) = true) ∨ l.getD i zR = l'.getD i zR) → l.filter (fun p => !emptyB p) = l'.filter (fun p => !emptyB p)
  | [], [], _, _ => rfl
  | p :: l, q :: l', h, hh => by
    have ih := filt_congr (l := l) (l' := l') (by simpa using h) (fun i => by simpa using hh (i + 1))
    have h0 : (emptyB p = true ∧ emptyB q = true) ∨ p = q := by simpa using hh 0
    rcases h0 with ⟨h1, h2⟩ | rfl
    · simp [h1, h2, ih]
    · simp [List.filter_cons, ih]
theorem zR_empty : emptyB zR = true := by decide
theorem of_part {x0 x1 y0 y1 : Int} {p : Rc} (hp : p = ⟨x0, y0, x1 - x0 + 1, y1 - y0 + 1⟩) : (emptyB (ofR x0 x1 y0 y1) = true ∧ emptyB p = true) ∨ ofR x0 x1 y0 y1 = p := by
  unfold ofR
  split
  · left; refine ⟨zR_empty, ?_⟩; rw [empty_true]; subst hp; simp only; omega
  · right; exact hp.symm
theorem partsOL (a m : Rc) : (partsO a m).filter (fun p => !emptyB p) = (partsL a m).filter (fun p => !emptyB p) := by
  refine filt_congr rfl fun i => ?_
  match i with
  | 0 => exact of_part (p := part0 a m) (x0 := a.x) (x1 := a.x + a.w - 1) (y0 := a.y) (y1 := m.y - 1) (by simp only [part0, Rc.mk.injEq, true_and]; omega)
  | 1 => exact of_part (p := part1 a m) (x0 := a.x) (x1 := m.x - 1) (y0 := m.y) (y1 := m.y + m.h - 1) (by simp only [part1, Rc.mk.injEq, true_and]; omega)
  | 2 => exact of_part (p := part2 a m) (x0 := m.x + m.w) (x1 := a.x + a.w - 1) (y0 := m.y) (y1 := m.y + m.h - 1) (by simp only [part2, Rc.mk.injEq, true_and]; omega)
  | 3 => exact of_part (p := part3 a m) (x0 := a.x) (x1 := a.x + a.w - 1) (y0 := m.y + m.h) (y1 := a.y + a.h - 1) (by simp only [part3, Rc.mk.injEq, true_and]; omega)
  | i + 4 => right; simp [partsO, partsL]
theorem st8 (ha : emptyB a = false) (hm : emptyB (meetR a b) = false) (hI : k ≤ 4) (hc : 4 ≤ (k : Int)) : (pl (partsO a (meetR a b)) k).map rcC = (minusL a b).map rcC := by
  rw [← st7 ha hm hI hc]
  have : k = 4 := by omega
  subst this
  congr 1
  exact partsOL _ _
end
/-! tiles -/
def NX (r : Rc) : Nat := (tileI (r.x + r.w - 1) - tileI r.x + 1).toNat
def NY (r : Rc) : Nat := (tileI (r.y + r.h - 1) - tileI r.y + 1).toNat
theorem rowL_len (y x : Int) (n : Nat) : (rowL y x n).length = n := by simp [rowL]
theorem rowL_succ (y x : Int) (n : Nat) : rowL y x (n + 1) = rowL y x n ++ [⟨x + n, y⟩] := by simp [rowL, List.range_succ]
theorem gridL_len (x y : Int) (n : Nat) : ∀ m, (gridL x y n m).length = n * m
  | 0 => rfl
  | m + 1 => by simp [gridL, gridL_len x y n m, rowL_len, Nat.mul_succ]
theorem tile_bd {x : Int} (h1 : -1048576 ≤ x) (h2 : x ≤ 1048576) : -65536 ≤ tileI x ∧ tileI x ≤ 65536 := by unfold tileI; omega
theorem tile_mono {x y : Int} (h : x ≤ y) : tileI x ≤ tileI y := by unfold tileI; omega
structure TB (r : Rc) : Prop where
  x0 : -65536 ≤ tileI r.x
  x1 : tileI (r.x + r.w - 1) ≤ 65536
  y0 : -65536 ≤ tileI r.y
  y1 : tileI (r.y + r.h - 1) ≤ 65536
  xx : tileI r.x ≤ tileI (r.x + r.w - 1)
  yy : tileI r.y ≤ tileI (r.y + r.h - 1)
theorem TB.of {r : Rc} (h : emptyB r = false) : TB r := by
  have := empty_spec.1 h
  exact ⟨(tile_bd (by omega) (by omega)).1, (tile_bd (by omega) (by omega)).2, (tile_bd (by omega) (by omega)).1, (tile_bd (by omega) (by omega)).2, tile_mono (by omega), tile_mono (by omega)⟩
theorem tw {x y : Int} (h1 : -65536 ≤ x) (h2 : x ≤ y) (h3 : y ≤ 65536) : IntKind.i64.wrap (IntKind.i64.wrap (y - x) + 1) = y - x + 1 := by
  rw [w64 (n := y - x) (by omega) (by omega), w64 (by omega) (by omega)]
theorem tw2 {r : Rc} (t : TB r) : IntKind.i64.wrap ((tileI (r.x + r.w - 1) - tileI r.x + 1) * (tileI (r.y + r.h - 1) - tileI r.y + 1)) = (tileI (r.x + r.w - 1) - tileI r.x + 1) * (tileI (r.y + r.h - 1) - tileI r.y + 1) := by
  have hx := t.xx; have hy := t.yy; have := t.x0; have := t.x1; have := t.y0; have := t.y1
  have h1 : 0 ≤ (tileI (r.x + r.w - 1) - tileI r.x + 1) * (tileI (r.y + r.h - 1) - tileI r.y + 1) := Int.mul_nonneg (by omega) (by omega)
  have h2 : (tileI (r.x + r.w - 1) - tileI r.x + 1) * (tileI (r.y + r.h - 1) - tileI r.y + 1) ≤ 131073 * (tileI (r.y + r.h - 1) - tileI r.y + 1) := Int.mul_le_mul_of_nonneg_right (by omega) (by omega)
  exact w64 (by omega) (by omega)
theorem nm_le {r : Rc} (t : TB r) (h : (tileI (r.x + r.w - 1) - tileI r.x + 1) * (tileI (r.y + r.h - 1) - tileI r.y + 1) ≤ 4096) : NX r * NY r ≤ 4096 := by
  have hx : (NX r : Int) = tileI (r.x + r.w - 1) - tileI r.x + 1 := by unfold NX; have := t.xx; omega
  have hy : (NY r : Int) = tileI (r.y + r.h - 1) - tileI r.y + 1 := by unfold NY; have := t.yy; omega
  rw [← hx, ← hy] at h
  have h' : ((NX r * NY r : Nat) : Int) ≤ 4096 := by rw [Int.natCast_mul]; exact h
  omega
def gr (r : Rc) (j : Nat) : List Pt := gridL (tileI r.x) (tileI r.y) (NX r) j
def gri (r : Rc) (j i : Nat) : List Pt := gr r j ++ rowL (tileI r.y + j) (tileI r.x) i
section
variable {r : Rc} {i j : Nat}
theorem tl0 : (tilesL r).map ptC = (tilesL r).map ptC := rfl
theorem tl1 (h : emptyB r = true) : (tilesL r).map ptC = [] := by unfold tilesL; rw [if_pos h]; rfl
theorem tl2 (h : emptyB r = false) (hc : 4096 < (tileI (r.x + r.w - 1) - tileI r.x + 1) * (tileI (r.y + r.h - 1) - tileI r.y + 1)) : (tilesL r).map ptC = [] := by
  unfold tilesL; rw [if_neg (by simp [h]), if_pos hc]; rfl
theorem tl3 (t : TB r) (h : emptyB r = false) (hm : (tileI (r.x + r.w - 1) - tileI r.x + 1) * (tileI (r.y + r.h - 1) - tileI r.y + 1) ≤ 4096) (hI : j ≤ NY r) (hc : tileI (r.y + r.h - 1) < tileI r.y + (j : Int)) : (gr r j).map ptC = (tilesL r).map ptC := by
  have hj : j = NY r := by have := t.yy; unfold NY at hI ⊢; omega
  unfold tilesL; rw [if_neg (by simp [h]), if_neg (by omega), hj]; rfl
theorem tj {X : Int} (h1 : -65536 ≤ X) (h2 : X + (i : Int) ≤ 65536) : IntKind.i64.wrap (X + (i : Int) + 1) = X + ((i + 1 : Nat) : Int) := by rw [w64 (by omega) (by omega)]; omega
theorem tk1 : (gr r j).map ptC = (gri r j 0).map ptC := by simp [gri, rowL]
theorem tk2 : (gr r j).length = (gri r j 0).length := by simp [gri, rowL]
theorem tk3 : (gri r j i).map ptC ++ [[.i (tileI r.x + (i : Int)), .i (tileI r.y + (j : Int))]] = (gri r j (i + 1)).map ptC := by simp [gri, rowL_succ, ptC]
theorem tk4 : (gri r j i).length + 1 = (gri r j (i + 1)).length := by simp [gri, rowL_succ]; omega
theorem tk5 (t : TB r) (hI : i ≤ NX r) (hc : tileI (r.x + r.w - 1) < tileI r.x + (i : Int)) : gri r j i = gr r (j + 1) := by
  have hj : i = NX r := by have := t.xx; unfold NX at hI ⊢; omega
  rw [gri, gr, gr, gridL, hj]
theorem tk6 (t : TB r) (hI : i ≤ NX r) (hc : tileI (r.x + r.w - 1) < tileI r.x + (i : Int)) : (gri r j i).map ptC = (gr r (j + 1)).map ptC := by rw [tk5 t hI hc]
theorem tk7 (t : TB r) (hI : i ≤ NX r) (hc : tileI (r.x + r.w - 1) < tileI r.x + (i : Int)) : (gri r j i).length = (gr r (j + 1)).length := by rw [tk5 t hI hc]
theorem tlx (t : TB r) (h : tileI r.x + (i : Int) ≤ tileI (r.x + r.w - 1)) : i < NX r := by unfold NX; omega
theorem tly (t : TB r) (h : tileI r.y + (j : Int) ≤ tileI (r.y + r.h - 1)) : j < NY r := by unfold NY; omega
theorem gri_bd (hn : NX r * NY r ≤ 4096) (hj : j < NY r) (hi : i < NX r) : (gri r j i).length < 4096 := by
  have h1 : NX r * (j + 1) ≤ NX r * NY r := Nat.mul_le_mul_left _ hj
  simp only [gri, gr, List.length_append, gridL_len, rowL_len]
  rw [Nat.mul_add] at h1; omega
theorem gri_b2 (hn : NX r * NY r ≤ 4096) (hj : j < NY r) (hi : i < NX r) : ((gri r j i).length + 1) * 16 ≤ 140737488355328 := by have := gri_bd hn hj hi; omega
theorem gri_b3 (hn : NX r * NY r ≤ 4096) (hj : j < NY r) (hi : i < NX r) : (gri r j i).length + 1 ≤ maxLen := by have := gri_bd hn hj hi; unfold maxLen; omega
end

end Go.Rect
