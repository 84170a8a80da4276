import Derived.Test.YtdillkdhpalgcaaLB
import Derived.Test.YtdillkdhpalgcaaED
set_option linter.unusedSimpArgs false
set_option linter.unusedVariables false
set_option linter.unusedSimpArgs false
set_option linter.unusedVariables false
namespace Go.Rect
open Go.Eng
/-! ### Moving by whole pixels -/
def mvP (dx dy : Int) (p : Pt) : Pt := ⟨p.x + 16 * dx, p.y + 16 * dy⟩
def mvE (dx dy : Int) (s : Ed) : Ed := ⟨mvP dx dy s.a, mvP dx dy s.b⟩
theorem cross_mv (dx dy : Int) (s : Ed) (x y : Int) : crossI (mvE dx dy s) (x + 16 * dx) (y + 16 * dy) = crossI s x y := by
  have e1 : ∀ a b : Int, (2 * (x + 16 * dx) + 1) * (a + 16 * dy - (b + 16 * dy)) < 2 * (0 + 16 * dx) * 0 + 0 ↔ (2 * (x + 16 * dx) + 1) * (a - b) < 0 := fun a b => by
    have : a + 16 * dy - (b + 16 * dy) = a - b := by omega
    rw [this]; omega
  have key : ∀ ax ay bx by' : Int, ((2 * (x + 16 * dx) + 1) * (by' + 16 * dy - (ay + 16 * dy)) < 2 * (ax + 16 * dx) * (by' + 16 * dy - (ay + 16 * dy)) + (2 * (y + 16 * dy) + 1 - 2 * (ay + 16 * dy)) * (bx + 16 * dx - (ax + 16 * dx))) ↔
      ((2 * x + 1) * (by' - ay) < 2 * ax * (by' - ay) + (2 * y + 1 - 2 * ay) * (bx - ax)) := by
    intro ax ay bx by'
    have h1 : by' + 16 * dy - (ay + 16 * dy) = by' - ay := by omega
    have h2 : bx + 16 * dx - (ax + 16 * dx) = bx - ax := by omega
    have h3 : 2 * (y + 16 * dy) + 1 - 2 * (ay + 16 * dy) = 2 * y + 1 - 2 * ay := by omega
    rw [h1, h2, h3]
    have h4 : (2 * (x + 16 * dx) + 1) * (by' - ay) = (2 * x + 1) * (by' - ay) + 32 * dx * (by' - ay) := by rw [← Int.add_mul]; congr 1; omega
    have h5 : 2 * (ax + 16 * dx) * (by' - ay) = 2 * ax * (by' - ay) + 32 * dx * (by' - ay) := by rw [← Int.add_mul]; congr 1; omega
    rw [h4, h5]; omega
  unfold crossI mvE mvP
  simp only
  by_cases h : s.b.y < s.a.y
  · rw [if_pos h, if_pos (by omega)]
    by_cases h2 : y < s.b.y ∨ s.a.y ≤ y
    · rw [if_pos h2, if_pos (by omega)]
    · rw [if_neg h2, if_neg (by omega)]
      simp only [key s.b.x s.b.y s.a.x s.a.y]
  · rw [if_neg h, if_neg (by omega)]
    by_cases h2 : y < s.a.y ∨ s.b.y ≤ y
    · rw [if_pos h2, if_pos (by omega)]
    · rw [if_neg h2, if_neg (by omega)]
      simp only [key s.a.x s.a.y s.b.x s.b.y]
theorem getD_map0 {p : List Pt} {f : Pt → Pt} {i : Nat} (h : i < p.length) : (p.map f).getD i ⟨0, 0⟩ = f (p.getD i ⟨0, 0⟩) := by
  simp [List.getD_eq_getElem?_getD, List.getElem?_map, List.getElem?_eq_getElem h]
theorem edges_mv (dx dy : Int) (p : List Pt) : edgesOf (p.map (mvP dx dy)) = (edgesOf p).map (mvE dx dy) := by
  unfold edgesOf
  rw [List.length_map, List.map_map]
  apply List.map_congr_left
  intro i hi
  have hi : i < p.length := by simpa using hi
  have h2 : (i + 1) % p.length < p.length := Nat.mod_lt _ (by omega)
  simp only [Function.comp, mvE, nxt, List.length_map, getD_map0 hi, getD_map0 h2]
theorem ins_mv (dx dy : Int) (ps : List (List Pt)) (x y : Int) : insN (ps.map fun p => p.map (mvP dx dy)) (x + 16 * dx) (y + 16 * dy) = insN ps x y := by
  have e : allE (ps.map fun p => p.map (mvP dx dy)) = (allE ps).map (mvE dx dy) := by
    unfold allE
    induction ps with
    | nil => rfl
    | cons p ps ih => simp only [List.map_cons, List.flatMap_cons, List.map_append, edges_mv, ih]
  rw [insN, e, List.map_map, insN]
  congr 1; apply List.map_congr_left; intro s _; exact cross_mv dx dy s x y
theorem row_mv (dx dy : Int) (ps : List (List Pt)) (rule x y : Int) (n : Nat) : rowC (ps.map fun p => p.map (mvP dx dy)) rule (x + 16 * dx) (y + 16 * dy) n = rowC ps rule x y n := by
  unfold rowC
  congr 1; apply List.map_congr_left; intro i _
  have : x + 16 * dx + (i : Int) = x + i + 16 * dx := by omega
  rw [this, ins_mv]
theorem val_mv (dx dy : Int) (ps : List (List Pt)) (rule x y : Int) : valI (ps.map fun p => p.map (mvP dx dy)) rule (x + dx) (y + dy) = valI ps rule x y := by
  unfold valI cntC
  congr 3; apply List.map_congr_left; intro j _
  have h1 : 16 * (x + dx) = 16 * x + 16 * dx := by omega
  have h2 : 16 * (y + dy) + (j : Int) = 16 * y + j + 16 * dy := by omega
  rw [h1, h2, row_mv]
/-! ### Turning round -/
def revE (s : Ed) : Ed := ⟨s.b, s.a⟩
theorem cross_rev (s : Ed) (x y : Int) : crossI (revE s) x y = -crossI s x y := by
  unfold crossI revE
  simp only
  by_cases h : s.b.y < s.a.y
  · rw [if_neg (by omega), if_pos h]
    split
    · rfl
    · split <;> rfl
  · rw [if_neg h]
    by_cases h1 : s.a.y < s.b.y
    · rw [if_pos h1]
      split
      · rfl
      · split <;> rfl
    · have : s.a.y = s.b.y := by omega
      rw [if_neg h1, if_pos (by omega), if_pos (by omega)]; rfl
theorem insB_neg (rule n : Int) : insB rule (-n) = insB rule n := by
  unfold insB
  split
  · rw [Int.neg_tmod]
    congr 1; rw [Bool.eq_iff_iff]; simp only [beq_iff_eq]; omega
  · congr 1; rw [Bool.eq_iff_iff]; simp only [beq_iff_eq]; omega
/-! ### Sums round a polygon -/
def pth (F : Pt → Pt → Int) : List Pt → Int
  | a :: b :: l => F a b + pth F (b :: l)
  | _ => 0
def cyc (F : Pt → Pt → Int) (p : List Pt) : Int := ((List.range p.length).map fun i => F (p.getD i ⟨0, 0⟩) (nxt p i)).sum
theorem pth_cut (F : Pt → Pt → Int) (a : Pt) (m : List Pt) : ∀ (l : List Pt), pth F (l ++ a :: m) = pth F (l ++ [a]) + pth F (a :: m)
  | [] => by simp [pth]
  | [b] => by simp only [List.cons_append, List.nil_append, pth]; omega
  | b :: c :: l => by
    have := pth_cut F a m (c :: l)
    simp only [List.cons_append, pth] at this ⊢; omega
theorem pth_sum (F : Pt → Pt → Int) : ∀ (l : List Pt) (a : Pt), pth F (a :: l) = ((List.range l.length).map fun i => F ((a :: l).getD i ⟨0, 0⟩) ((a :: l).getD (i + 1) ⟨0, 0⟩)).sum
  | [], a => rfl
  | b :: l, a => by
    have ih := pth_sum F l b
    rw [pth, ih, List.length_cons, List.range_succ_eq_map, List.map_cons, List.sum_cons, List.map_map]
    rfl
theorem cyc_pth (F : Pt → Pt → Int) (a : Pt) (l : List Pt) : cyc F (a :: l) = pth F (a :: (l ++ [a])) := by
  rw [pth_sum, cyc]
  have e : (l ++ [a]).length = (a :: l).length := by simp
  rw [e]
  congr 1; apply List.map_congr_left
  intro i hi
  have hi : i < (a :: l).length := by simpa using hi
  have h1 : (a :: (l ++ [a])).getD i ⟨0, 0⟩ = (a :: l).getD i ⟨0, 0⟩ := by
    rw [← List.cons_append]
    simp only [List.getD_eq_getElem?_getD, List.getElem?_append_left hi]
  have h2 : (a :: (l ++ [a])).getD (i + 1) ⟨0, 0⟩ = nxt (a :: l) i := by
    rw [nxt, ← List.cons_append]
    by_cases hl : i + 1 < (a :: l).length
    · rw [Nat.mod_eq_of_lt hl]
      simp only [List.getD_eq_getElem?_getD, List.getElem?_append_left hl]
    · have e2 : i + 1 = (a :: l).length := by omega
      rw [e2, Nat.mod_self]
      simp only [List.getD_eq_getElem?_getD, List.getElem?_append_right (Nat.le_refl _), Nat.sub_self]; rfl
  rw [h1, h2]
theorem cyc_nil (F : Pt → Pt → Int) : cyc F [] = 0 := rfl
theorem cyc_rot (F : Pt → Pt → Int) (a : Pt) : ∀ (l : List Pt), cyc F (l ++ [a]) = cyc F (a :: l)
  | [] => rfl
  | b :: l => by
    rw [List.cons_append, cyc_pth, cyc_pth]
    have h := pth_cut F a [b] (b :: l)
    have e : b :: (l ++ [a] ++ [b]) = (b :: l) ++ a :: [b] := by simp
    rw [e, h]
    simp only [List.cons_append, pth]; omega
theorem pth_rev (F : Pt → Pt → Int) : ∀ (l : List Pt), pth F l.reverse = pth (fun a b => F b a) l
  | [] => rfl
  | [a] => rfl
  | a :: b :: l => by
    have ih := pth_rev F (b :: l)
    rw [List.reverse_cons] at ih
    rw [List.reverse_cons, List.reverse_cons, List.append_assoc]
    have h := pth_cut F b [a] l.reverse
    simp only [List.singleton_append]
    rw [h, ih]
    simp only [pth]; omega
theorem cyc_rev (F : Pt → Pt → Int) : ∀ (p : List Pt), cyc F p.reverse = cyc (fun a b => F b a) p
  | [] => rfl
  | a :: l => by
    rw [List.reverse_cons, cyc_rot, cyc_pth, cyc_pth]
    have e : a :: (l.reverse ++ [a]) = (a :: (l ++ [a])).reverse := by simp
    rw [e, pth_rev]
theorem cyc_neg (F : Pt → Pt → Int) (p : List Pt) : cyc (fun a b => -F a b) p = -cyc F p := by
  unfold cyc
  generalize List.range p.length = r
  induction r with
  | nil => rfl
  | cons i r ih => simp only [List.map_cons, List.sum_cons, ih]; omega
/-- A polygon that is cut between its first point and another one. -/
theorem cyc_cut (F : Pt → Pt → Int) (hF : ∀ a b, F a b + F b a = 0) (h c : Pt) (u v : List Pt) (hu : u = [] ∧ c = h ∨ ∃ t, u = h :: t) : cyc F (u ++ [c]) + cyc F (c :: (v ++ [h])) = cyc F (u ++ c :: v) := by
  have h0 := hF c h
  rcases hu with ⟨rfl, rfl⟩ | ⟨t, rfl⟩
  · simp only [List.nil_append]
    rw [cyc_pth, cyc_pth, cyc_pth]
    have e : c :: (v ++ [c] ++ [c]) = (c :: v) ++ c :: [c] := by simp
    rw [e, pth_cut]
    simp only [List.nil_append, List.cons_append, pth]; omega
  · rw [List.cons_append, List.cons_append, cyc_pth, cyc_pth, cyc_pth]
    have e1 : h :: (t ++ [c] ++ [h]) = (h :: t) ++ c :: [h] := by simp
    have e2 : c :: (v ++ [h] ++ [c]) = (c :: v) ++ h :: [c] := by simp
    have e3 : h :: (t ++ c :: v ++ [h]) = (h :: t) ++ c :: (v ++ [h]) := by simp
    have k1 := pth_cut F c [h] (h :: t); have k2 := pth_cut F h [c] (c :: v); have k3 := pth_cut F c (v ++ [h]) (h :: t)
    rw [e1, e2, e3, k1, k2, k3]
    simp only [List.cons_append, pth]; omega
end Go.Rect

set_option linter.unusedSimpArgs false
set_option linter.unusedVariables false
namespace Go.Rect
open Go.Eng
/-! ### Masks in general -/
theorem mask_n0 {ps : List (List Pt)} {rule : Int} {r : Rc} (h : ¬ maskE ps rule r = 0) : maskR ps rule r = ⟨0, 0, []⟩ := by
  rw [maskR, if_neg (fun g => h g.1)]
theorem mask_em {ps : List (List Pt)} {rule : Int} {r : Rc} (h : emptyB r = true) : maskR ps rule r = ⟨0, 0, []⟩ := by
  rw [maskR, if_neg (by simp [h])]
theorem maskE_0 {ps : List (List Pt)} {rule : Int} {r : Rc} (h : maskE ps rule r = 0) : checkE ps rule = 0 ∧ areaE r = 0 := by
  unfold maskE at h
  split at h
  · contradiction
  · next g => exact ⟨by simpa using g, h⟩
theorem maskE_1 {ps : List (List Pt)} {rule : Int} {r : Rc} (h : checkE ps rule = 0) (ha : areaE r = 0) : maskE ps rule r = 0 := by
  rw [maskE, if_neg (by simp [h]), ha]
theorem nn_mul {w h : Int} (hw : 0 ≤ w) (hh : 0 ≤ h) : ((w.toNat * h.toNat : Nat) : Int) = w * h := by
  rw [Int.natCast_mul, Int.toNat_of_nonneg hw, Int.toNat_of_nonneg hh]
theorem mask_lenE (ps : List (List Pt)) (rule : Int) (r : Rc) : ((maskR ps rule r).v.length : Int) = (maskR ps rule r).w * (maskR ps rule r).h ∧ 0 ≤ (maskR ps rule r).w * (maskR ps rule r).h ∧ (maskR ps rule r).w * (maskR ps rule r).h ≤ 65536 ∧ 0 ≤ (maskR ps rule r).w ∧ (maskR ps rule r).w ≤ 256 ∧ 0 ≤ (maskR ps rule r).h ∧ (maskR ps rule r).h ≤ 256 := by
  have hl := mask_len ps rule r
  have e : ((maskR ps rule r).v.length : Int) = (maskR ps rule r).w * (maskR ps rule r).h ∧ 0 ≤ (maskR ps rule r).w ∧ (maskR ps rule r).w ≤ 256 ∧ 0 ≤ (maskR ps rule r).h ∧ (maskR ps rule r).h ≤ 256 := by
    by_cases g : maskE ps rule r = 0 ∧ emptyB r = false
    · have hs := area_sz (maskE_0 g.1).2 g.2
      rw [maskR, if_pos g]
      simp only [VL_len]
      exact ⟨nn_mul (by omega) (by omega), by omega⟩
    · rw [maskR, if_neg g]; simp
  omega
theorem mask_ok {ps : List (List Pt)} {rule : Int} {r : Rc} (h : maskE ps rule r = 0) (he : emptyB r = false) : (maskR ps rule r).w = r.w ∧ (maskR ps rule r).h = r.h ∧ (maskR ps rule r).v = VL ps rule r (r.w.toNat * r.h.toNat) := by
  rw [maskR, if_pos ⟨h, he⟩]; exact ⟨rfl, rfl, rfl⟩
theorem VL_get {ps : List (List Pt)} {rule : Int} {r : Rc} {n k : Nat} (h : k < n) : (VL ps rule r n).getD k 0 = mskV ps rule r k := by
  simp [VL, List.getD_eq_getElem?_getD, List.getElem?_map, List.getElem?_range h]
theorem yx_lt {w h y x : Nat} (hy : y < h) (hx : x < w) : y * w + x < w * h := by
  have : (y + 1) * w ≤ h * w := Nat.mul_le_mul_right w hy
  rw [Nat.add_mul, Nat.mul_comm h] at this; omega
theorem mask_at {ps : List (List Pt)} {rule : Int} {r : Rc} (h : maskE ps rule r = 0) (he : emptyB r = false) {y x : Nat} (hy : y < r.h.toNat) (hx : x < r.w.toNat) :
    (maskR ps rule r).v.getD (y * r.w.toNat + x) 0 = valI ps rule (r.x + x) (r.y + y) := by
  rw [(mask_ok h he).2.2, VL_get (yx_lt hy hx), msk_at hx]
/-! ### CoverParts -/
theorem meet_area {a b : Rc} (h : areaE a = 0) : areaE (meetR a b) = 0 := by
  rcases meet_cases a b with ⟨e, _⟩ | ⟨h1, h2, h3, h4, h5, h6, h7⟩
  · rw [e]; rfl
  · have hs := area_sz h h1; have hv := empty_spec.1 h3
    apply area0
    · exact valid_spec.2 (by omega)
    · omega
theorem cp_mask {ps : List (List Pt)} {rule : Int} {a b : Rc} (h : maskE ps rule a = 0) : maskE ps rule (meetR a b) = 0 :=
  maskE_1 (maskE_0 h).1 (meet_area (maskE_0 h).2)
/-- What the loop of CoverParts meets. -/
theorem cp_at {ps : List (List Pt)} {rule : Int} {a b : Rc} (h : maskE ps rule a = 0) (he : emptyB (meetR a b) = false) {y x : Nat} (hy : (y : Int) < (meetR a b).h) (hx : (x : Int) < (meetR a b).w) :
    (∃ i : Nat, (y : Int) * (meetR a b).w + x = i ∧ i < (maskR ps rule (meetR a b)).v.length ∧ i < 65536 ∧ -65536 ≤ (y : Int) * (meetR a b).w ∧ (y : Int) * (meetR a b).w ≤ 65536 ∧
      ∃ j : Nat, ((meetR a b).y - a.y + y) * a.w + (meetR a b).x - a.x + x = j ∧ j < (maskR ps rule a).v.length ∧ j < 65536 ∧ 0 ≤ ((meetR a b).y - a.y + y) * a.w ∧ ((meetR a b).y - a.y + y) * a.w ≤ 65536 ∧
      (maskR ps rule (meetR a b)).v.getD i 0 = (maskR ps rule a).v.getD j 0) := by
  rcases meet_cases a b with ⟨e, _⟩ | ⟨h1, h2, h3, h4, h5, h6, h7⟩
  · rw [e] at he; cases he
  · have hs := area_sz (maskE_0 h).2 h1; have hm := cp_mask (b := b) h
    have hsm := area_sz (maskE_0 hm).2 h3
    generalize hR : meetR a b = R at *
    have ew : (R.w.toNat : Int) = R.w := Int.toNat_of_nonneg (by omega)
    have ea : (a.w.toNat : Int) = a.w := Int.toNat_of_nonneg (by omega)
    have l1 := mask_len ps rule R; have l2 := mask_len ps rule a
    have k1 := (mask_ok hm h3).2.2; have k2 := (mask_ok h h1).2.2
    have y1 : y < R.h.toNat := by omega
    have x1 : x < R.w.toNat := by omega
    have y2 : (R.y - a.y).toNat + y < a.h.toNat := by omega
    have x2 : (R.x - a.x).toNat + x < a.w.toNat := by omega
    have m1 := yx_lt y1 x1; have m2 := yx_lt y2 x2
    have n1 : (maskR ps rule R).v.length = R.w.toNat * R.h.toNat := by rw [k1, VL_len]
    have n2 : (maskR ps rule a).v.length = a.w.toNat * a.h.toNat := by rw [k2, VL_len]
    have c1 : ((y * R.w.toNat : Nat) : Int) = (y : Int) * R.w := by rw [Int.natCast_mul, ew]
    have c2 : ((((R.y - a.y).toNat + y) * a.w.toNat : Nat) : Int) = (R.y - a.y + y) * a.w := by
      rw [Int.natCast_mul, ea, Int.natCast_add, Int.toNat_of_nonneg (by omega)]
    refine ⟨y * R.w.toNat + x, by omega, by omega, by omega, by omega, by omega, ((R.y - a.y).toNat + y) * a.w.toNat + ((R.x - a.x).toNat + x), by omega, by omega, by omega, by omega, by omega, ?_⟩
    rw [mask_at hm h3 y1 x1, mask_at h h1 y2 x2]
    congr 1 <;> omega
/-! ### CoverMoves -/
theorem mv_cut {a : Rc} {dx dy : Int} (he : emptyB a = false) (hx : -128 ≤ dx ∧ dx ≤ 127) (hy : -128 ≤ dy ∧ dy ≤ 127) (h : areaI (moveR a ⟨dx, dy⟩) = areaI a) : moveR a ⟨dx, dy⟩ = ⟨a.x + dx, a.y + dy, a.w, a.h⟩ ∧ emptyB (⟨a.x + dx, a.y + dy, a.w, a.h⟩ : Rc) = false := by
  have hb := empty_spec.1 he
  have hp := area_bd he
  rw [show areaI a = a.w * a.h by rw [areaI, he]; rfl] at h
  have e : moveR a ⟨dx, dy⟩ = betweenR (a.x + dx) (a.y + dy) (a.x + dx + a.w) (a.y + dy + a.h) := by
    rw [moveR, he]; simp only [lim4]
    have e1 : min (max dx (-4194304)) 4194304 = dx := by omega
    have e2 : min (max dy (-4194304)) 4194304 = dy := by omega
    rw [e1, e2]; rfl
  rw [e, betweenR] at h ⊢
  split at h
  · next g => rw [show areaI zR = 0 from rfl] at h; omega
  · next g =>
    generalize hW : min (a.x + dx + a.w) 1048576 - max (a.x + dx) (-1048576) = W at h
    generalize hH : min (a.y + dy + a.h) 1048576 - max (a.y + dy) (-1048576) = H at h
    have w1 : W ≤ a.w := by omega
    have h1 : H ≤ a.h := by omega
    have w0 : 0 < W := by omega
    have h0 : 0 < H := by omega
    have ne : emptyB (⟨max (a.x + dx) (-1048576), max (a.y + dy) (-1048576), W, H⟩ : Rc) = false := empty_spec.2 (by simp only; omega)
    rw [areaI, ne] at h
    simp only [Bool.false_eq_true, if_false] at h
    have ew : W = a.w := by
      rcases Int.lt_or_eq_of_le w1 with q | q
      · have q1 : W * H ≤ W * a.h := Int.mul_le_mul_of_nonneg_left h1 (by omega)
        have q2 : W * a.h < a.w * a.h := Int.mul_lt_mul_of_pos_right q (by omega)
        omega
      · exact q
    have eh : H = a.h := by
      rcases Int.lt_or_eq_of_le h1 with q | q
      · rw [ew] at h
        have q2 : a.w * H < a.w * a.h := Int.mul_lt_mul_of_pos_left q (by omega)
        omega
      · exact q
    rw [if_neg g]
    have : max (a.x + dx) (-1048576) = a.x + dx := by omega
    have h4 : max (a.y + dy) (-1048576) = a.y + dy := by omega
    rw [this, h4] at ne
    refine ⟨Rc.ext' ⟨by simp only; omega, by simp only; omega, by simp only; omega, by simp only; omega⟩, ?_⟩
    rw [← ew, ← eh]; exact ne
def smallP (p : Pt) : Bool := decide (-1048576 ≤ p.x) && decide (p.x ≤ 1048576) && decide (-1048576 ≤ p.y) && decide (p.y ≤ 1048576)
theorem total_map (f : List Pt → List Pt) (hf : ∀ p, (f p).length = p.length) (ps : List (List Pt)) : total (ps.map f) = total ps := by
  unfold total; rw [List.map_map]; congr 1; apply List.map_congr_left; intro p _; exact hf p
theorem check_mv {ps : List (List Pt)} {dx dy rule : Int} (hx : -128 ≤ dx ∧ dx ≤ 127) (hy : -128 ≤ dy ∧ dy ≤ 127) (h : ∀ p ∈ ps, ∀ a ∈ p, smallP a = true) : checkE (ps.map fun p => p.map (mvP dx dy)) rule = checkE ps rule := by
  have h1 : ps.all (fun p => p.all ptOk) = true := by
    rw [List.all_eq_true]; intro p hp; rw [List.all_eq_true]; intro a ha
    have := h p hp a ha
    simp only [smallP, ptOk, Bool.and_eq_true, decide_eq_true_eq] at this ⊢; omega
  have h2 : (ps.map fun p => p.map (mvP dx dy)).all (fun p => p.all ptOk) = true := by
    rw [List.all_eq_true]; intro p hp; rw [List.all_eq_true]; intro a ha
    obtain ⟨p', hp', rfl⟩ := List.mem_map.1 hp
    obtain ⟨a', ha', rfl⟩ := List.mem_map.1 ha
    have := h p' hp' a' ha'
    simp only [smallP, ptOk, Bool.and_eq_true, decide_eq_true_eq] at this ⊢
    have e1 : (mvP dx dy a').x = a'.x + 16 * dx := rfl
    have e2 : (mvP dx dy a').y = a'.y + 16 * dy := rfl
    omega
  unfold checkE; rw [h1, h2, total_map _ (fun p => by simp)]
theorem mv_mask {ps : List (List Pt)} {a : Rc} {dx dy rule : Int} (hx : -128 ≤ dx ∧ dx ≤ 127) (hy : -128 ≤ dy ∧ dy ≤ 127) (h : ∀ p ∈ ps, ∀ a ∈ p, smallP a = true) (he : emptyB a = false) (ha : areaI (moveR a ⟨dx, dy⟩) = areaI a) :
    maskE (ps.map fun p => p.map (mvP dx dy)) rule (moveR a ⟨dx, dy⟩) = maskE ps rule a ∧ maskR (ps.map fun p => p.map (mvP dx dy)) rule (moveR a ⟨dx, dy⟩) = maskR ps rule a := by
  obtain ⟨e, ne⟩ := mv_cut he hx hy ha
  have b1 := empty_spec.1 he; have b2 := empty_spec.1 ne
  have e1 : maskE (ps.map fun p => p.map (mvP dx dy)) rule (moveR a ⟨dx, dy⟩) = maskE ps rule a := by
    rw [maskE, check_mv hx hy h, e, maskE]
    congr 1
    have v1 : validB a = true := valid_spec.2 (by omega)
    have v2 : validB (⟨a.x + dx, a.y + dy, a.w, a.h⟩ : Rc) = true := valid_spec.2 (by simp only at b2 ⊢; omega)
    rw [areaE, areaE, v1, v2]
  refine ⟨e1, ?_⟩
  rw [maskR, maskR, e1, e, ne, he]
  have ev : ∀ n, VL (ps.map fun p => p.map (mvP dx dy)) rule ⟨a.x + dx, a.y + dy, a.w, a.h⟩ n = VL ps rule a n := by
    intro n
    unfold VL; apply List.map_congr_left; intro k _
    unfold mskV; simp only
    have x1 : ∀ q : Int, a.x + dx + q = a.x + q + dx := fun q => by omega
    have y1 : ∀ q : Int, a.y + dy + q = a.y + q + dy := fun q => by omega
    rw [x1, y1, val_mv]
  simp only [ev]
/-! ### CoverTurns and CoverCuts -/
theorem val_ext {ps qs : List (List Pt)} {rule : Int} (h : ∀ x y, insB rule (insN ps x y) = insB rule (insN qs x y)) (x y : Int) : valI ps rule x y = valI qs rule x y := by
  unfold valI cntC rowC
  simp only [h]
theorem mask_ext {ps qs : List (List Pt)} {rule : Int} (hk : checkE ps rule = checkE qs rule) (h : ∀ x y, insB rule (insN ps x y) = insB rule (insN qs x y)) (r : Rc) : maskE ps rule r = maskE qs rule r ∧ maskR ps rule r = maskR qs rule r := by
  have e : maskE ps rule r = maskE qs rule r := by rw [maskE, maskE, hk]
  refine ⟨e, ?_⟩
  rw [maskR, maskR, e]
  have : ∀ n, VL ps rule r n = VL qs rule r n := fun n => by
    unfold VL; apply List.map_congr_left; intro k _
    exact val_ext h _ _
  rw [this]
def crF (x y : Int) (a b : Pt) : Int := crossI ⟨a, b⟩ x y
theorem crF_anti (x y : Int) (a b : Pt) : crF x y a b + crF x y b a = 0 := by
  have := cross_rev ⟨a, b⟩ x y; unfold crF; unfold revE at this; simp only at this; omega
theorem insN_cyc (ps : List (List Pt)) (x y : Int) : insN ps x y = (ps.map (cyc (crF x y))).sum := by
  unfold insN allE
  induction ps with
  | nil => rfl
  | cons p ps ih =>
    rw [List.flatMap_cons, List.map_append, List.sum_append, ih, List.map_cons, List.sum_cons]
    congr 1
    unfold edgesOf cyc; rw [List.map_map]; rfl
def rotP : List Pt → List Pt
  | [] => []
  | a :: l => l ++ [a]
theorem cyc_rotP (F : Pt → Pt → Int) (p : List Pt) : cyc F (rotP p) = cyc F p := by
  cases p with
  | nil => rfl
  | cons a l => exact cyc_rot F a l
theorem ins_rot (ps : List (List Pt)) (x y : Int) : insN (ps.map rotP) x y = insN ps x y := by
  rw [insN_cyc, insN_cyc, List.map_map]
  congr 1; apply List.map_congr_left; intro p _; exact cyc_rotP _ p
theorem cyc_revF (x y : Int) (p : List Pt) : cyc (crF x y) p.reverse = -cyc (crF x y) p := by
  rw [cyc_rev, ← cyc_neg]
  congr 1; funext a b; have := crF_anti x y a b; omega
theorem ins_rev (ps : List (List Pt)) (x y : Int) : insN (ps.map List.reverse) x y = -insN ps x y := by
  rw [insN_cyc, insN_cyc, List.map_map]
  induction ps with
  | nil => rfl
  | cons p ps ih => 
    simp only [List.map_cons, List.sum_cons, ih, Function.comp, cyc_revF]; omega
theorem rotP_len (p : List Pt) : (rotP p).length = p.length := by cases p <;> simp [rotP]
theorem rotP_all (f : Pt → Bool) (p : List Pt) : (rotP p).all f = p.all f := by
  cases p with
  | nil => rfl
  | cons a l => simp [rotP, Bool.and_comm]
theorem check_map {f : List Pt → List Pt} (hl : ∀ p, (f p).length = p.length) (ha : ∀ p, (f p).all ptOk = p.all ptOk) (ps : List (List Pt)) (rule : Int) : checkE (ps.map f) rule = checkE ps rule := by
  unfold checkE
  rw [total_map f hl]
  have : (ps.map f).all (fun p => p.all ptOk) = ps.all (fun p => p.all ptOk) := by
    rw [List.all_map]; congr 1; funext p; exact ha p
  rw [this]
theorem check_rev (ps : List (List Pt)) (rule : Int) : checkE (ps.map List.reverse) rule = checkE ps rule := check_map (fun p => by simp) (fun p => by simp) ps rule
theorem check_rot (ps : List (List Pt)) (rule : Int) : checkE (ps.map rotP) rule = checkE ps rule := check_map rotP_len (rotP_all ptOk) ps rule
theorem mask_rev (ps : List (List Pt)) (rule : Int) (r : Rc) : maskE (ps.map List.reverse) rule r = maskE ps rule r ∧ maskR (ps.map List.reverse) rule r = maskR ps rule r :=
  mask_ext (check_rev ps rule) (fun x y => by rw [ins_rev, insB_neg]) r
theorem mask_rot (ps : List (List Pt)) (rule : Int) (r : Rc) : maskE (ps.map rotP) rule r = maskE ps rule r ∧ maskR (ps.map rotP) rule r = maskR ps rule r :=
  mask_ext (check_rot ps rule) (fun x y => by rw [ins_rot]) r
theorem twiceK_cyc (p : List Pt) : twiceK p p.length = cyc crossP p := rfl
theorem twice_rev (p : List Pt) : twiceI p.reverse = -twiceI p := by
  have h := check_rev [p] 0
  simp only [List.map_cons, List.map_nil] at h
  rw [twiceI, twiceI, h]
  split
  · rw [twiceK_cyc, twiceK_cyc, cyc_rev, ← cyc_neg]
    congr 1; funext a b; unfold crossP; omega
  · rfl
theorem twice_rot (p : List Pt) : twiceI (rotP p) = twiceI p := by
  have h := check_rot [p] 0
  simp only [List.map_cons, List.map_nil] at h
  rw [twiceI, twiceI, h, twiceK_cyc, twiceK_cyc, cyc_rotP]
/-- The parts of a polygon that is cut. -/
theorem mask_cut {p : List Pt} {k : Nat} (h2 : 2 ≤ p.length) (hl : p.length ≤ 2000) (hk : k < p.length) {rule : Int} (hr : rule = 0 ∨ rule = 1) (r : Rc) :
    maskE [p.take (k + 1), p.drop k ++ [p.getD 0 ⟨0, 0⟩]] rule r = maskE [p] rule r ∧ maskR [p.take (k + 1), p.drop k ++ [p.getD 0 ⟨0, 0⟩]] rule r = maskR [p] rule r := by
  obtain ⟨h, t, rfl⟩ : ∃ h t, p = h :: t := by
    cases p with
    | nil => simp at hk
    | cons h t => exact ⟨h, t, rfl⟩
  have e0 : (h :: t).getD 0 ⟨0, 0⟩ = h := rfl
  rw [e0]
  have e1 : (h :: t).take (k + 1) = (h :: t).take k ++ [(h :: t)[k]] := by rw [List.take_add_one, List.getElem?_eq_getElem hk]; rfl
  have e2 : (h :: t).drop k = (h :: t)[k] :: (h :: t).drop (k + 1) := by rw [List.drop_eq_getElem_cons hk]
  have e3 : (h :: t) = (h :: t).take k ++ (h :: t)[k] :: (h :: t).drop (k + 1) := by rw [← e2, List.take_append_drop]
  apply mask_ext
  · have t1 : total [(h :: t).take (k + 1), (h :: t).drop k ++ [h]] ≤ 4096 := by simp [total] at *; omega
    have t2 : total [h :: t] ≤ 4096 := by simp [total] at *; omega
    have a1 : [(h :: t).take (k + 1), (h :: t).drop k ++ [h]].all (fun p => p.all ptOk) = [h :: t].all (fun p => p.all ptOk) := by
      rw [Bool.eq_iff_iff]
      simp only [List.all_cons, List.all_nil, Bool.and_true, Bool.and_eq_true, List.all_eq_true, List.mem_append, List.mem_singleton]
      constructor
      · rintro ⟨q1, q2⟩
        have q3 : ∀ x ∈ (h :: t), ptOk x = true := by
          intro x hx
          rw [← List.take_append_drop k (h :: t), List.mem_append] at hx
          rcases hx with hx | hx
          · apply q1; rw [e1]; exact List.mem_append_left _ hx
          · exact q2 x (.inl hx)
        exact ⟨q3 h (by simp), fun x hx => q3 x (by simp [hx])⟩
      · rintro ⟨q1, q2⟩
        have q3 : ∀ x ∈ (h :: t), ptOk x = true := by
          intro x hx
          rcases List.mem_cons.1 hx with rfl | hx
          · exact q1
          · exact q2 x hx
        refine ⟨fun x hx => q3 x (List.mem_of_mem_take hx), fun x hx => ?_⟩
        rcases hx with hx | rfl
        · exact q3 x (List.mem_of_mem_drop hx)
        · exact q1
    unfold checkE
    have g : ¬ (rule ≠ 0 ∧ rule ≠ 1) := by omega
    have g1 : ¬ 4096 < total [(h :: t).take (k + 1), (h :: t).drop k ++ [h]] := by omega
    have g2 : ¬ 4096 < total [h :: t] := by omega
    simp only [a1, g, g1, g2, if_false]
  · intro x y
    congr 1
    rw [insN_cyc, insN_cyc]
    simp only [List.map_cons, List.map_nil, List.sum_cons, List.sum_nil]
    have hu : (h :: t).take k = [] ∧ (h :: t)[k] = h ∨ ∃ t', (h :: t).take k = h :: t' := by
      cases k with
      | zero => left; simp
      | succ k => right; exact ⟨t.take k, rfl⟩
    have key := cyc_cut (crF x y) (crF_anti x y) h ((h :: t)[k]) ((h :: t).take k) ((h :: t).drop (k + 1)) hu
    rw [← e1, ← e3] at key
    rw [e2, List.cons_append]
    omega
end Go.Rect

set_option linter.unusedSimpArgs false
set_option linter.unusedVariables false
namespace Go.Rect
open Go.Eng
/-! ### Rectangles -/
theorem cross_h {a b : Pt} (h : a.y = b.y) (x y : Int) : crossI ⟨a, b⟩ x y = 0 := by
  unfold crossI; simp only
  rw [if_neg (by omega), if_pos (by omega)]
theorem cross_v (X y0 y1 x y : Int) : crossI ⟨⟨X, y0⟩, ⟨X, y1⟩⟩ x y = (if y0 ≤ y ∧ y < y1 ∧ x < X then 1 else if y1 ≤ y ∧ y < y0 ∧ x < X then -1 else 0) := by
  have key : ∀ H : Int, 0 < H → ∀ c : Int, ((2 * x + 1) * H < 2 * X * H + c * (X - X) ↔ x < X) := by
    intro H hH c
    rw [Int.sub_self, Int.mul_zero, Int.add_zero]
    constructor
    · intro q
      have := Int.lt_of_mul_lt_mul_right q (by omega)
      omega
    · intro q
      exact Int.mul_lt_mul_of_pos_right (by omega) hH
  unfold crossI; simp only
  by_cases h : y1 < y0
  · rw [if_pos h]
    by_cases g : y < y1 ∨ y0 ≤ y
    · rw [if_pos g, if_neg (by omega), if_neg (by omega)]
    · rw [if_neg g]
      simp only [key (y0 - y1) (by omega)]
      rw [if_neg (show ¬ (y0 ≤ y ∧ y < y1 ∧ x < X) by omega)]
      by_cases q : x < X
      · rw [if_pos q, if_pos (by omega)]
      · rw [if_neg q, if_neg (by omega)]
  · rw [if_neg h]
    by_cases g : y < y0 ∨ y1 ≤ y
    · rw [if_pos g, if_neg (by omega), if_neg (by omega)]
    · rw [if_neg g]
      simp only [key (y1 - y0) (by omega)]
      by_cases q : x < X
      · rw [if_pos q, if_pos (by omega)]
      · rw [if_neg q, if_neg (by omega), if_neg (by omega)]
def sqIn (a b c d x y : Int) : Bool := (decide (min b d ≤ y) && decide (y < max b d)) && (decide (min a c ≤ x) && decide (x < max a c))
theorem sq_ins (a b c d x y : Int) : insB 0 (insN [squareL a b c d] x y) = sqIn a b c d x y := by
  have e : insN [squareL a b c d] x y = crossI ⟨⟨c, b⟩, ⟨c, d⟩⟩ x y + crossI ⟨⟨a, d⟩, ⟨a, b⟩⟩ x y := by
    have h1 := cross_h (a := ⟨a, b⟩) (b := ⟨c, b⟩) rfl x y
    have h2 := cross_h (a := ⟨c, d⟩) (b := ⟨a, d⟩) rfl x y
    rw [insN_cyc, squareL]
    simp only [List.map_cons, List.map_nil, List.sum_cons, List.sum_nil, cyc_pth, List.cons_append, List.nil_append, pth, crF]
    omega
  rw [e, cross_v, cross_v, insB, if_neg (by omega), Bool.eq_iff_iff]
  simp only [sqIn, Bool.not_eq_true', beq_eq_false_iff_ne, Bool.and_eq_true, decide_eq_true_eq, ne_eq]
  split <;> split <;> (try split) <;> (try split) <;> omega
def spn (lo hi x : Int) (n : Nat) : Int := max 0 (min hi (x + n) - max lo x)
theorem spn_succ {lo hi x : Int} {n : Nat} (h : lo ≤ hi) : spn lo hi x (n + 1) = spn lo hi x n + (if lo ≤ x + n ∧ x + n < hi then 1 else 0) := by
  unfold spn; split <;> omega
theorem row_sq (a b c d x y : Int) : ∀ n, rowC [squareL a b c d] 0 x y n = if min b d ≤ y ∧ y < max b d then spn (min a c) (max a c) x n else 0
  | 0 => by
    have : spn (min a c) (max a c) x 0 = 0 := by unfold spn; omega
    rw [this]; simp [rowC]
  | n + 1 => by
    rw [rowC_succ, row_sq a b c d x y n, sq_ins, spn_succ (by omega)]
    unfold b2i sqIn
    by_cases h : min b d ≤ y ∧ y < max b d
    · rw [if_pos h, if_pos h]
      by_cases g : min a c ≤ x + n ∧ x + n < max a c
      · rw [if_pos g]; simp only [h, g, decide_true, Bool.and_self, if_true]
      · rw [if_neg g]
        have : (decide (min a c ≤ x + (n : Int)) && decide (x + (n : Int) < max a c)) = false := by simp only [Bool.and_eq_false_iff, decide_eq_false_iff_not]; omega
        rw [this]; simp
    · rw [if_neg h, if_neg h]
      have : (decide (min b d ≤ y) && decide (y < max b d)) = false := by simp only [Bool.and_eq_false_iff, decide_eq_false_iff_not]; omega
      rw [this]; simp
theorem cnt_sq (a b c d x y : Int) : ∀ n, cntC [squareL a b c d] 0 x y n = spn (min a c) (max a c) (16 * x) 16 * spn (min b d) (max b d) (16 * y) n
  | 0 => by
    have : spn (min b d) (max b d) (16 * y) 0 = 0 := by unfold spn; omega
    rw [this]; simp [cntC]
  | n + 1 => by
    rw [cntC_succ, cnt_sq a b c d x y n, row_sq, spn_succ (lo := min b d) (hi := max b d) (by omega), Int.mul_add]
    congr 1
    split <;> simp
theorem val_sq (a b c d x y : Int) : valI [squareL a b c d] 0 x y = divI (65535 * (spn (min a c) (max a c) (16 * x) 16 * spn (min b d) (max b d) (16 * y) 16)) 256 := by
  unfold valI; rw [cnt_sq]
theorem sq_ok {a b c d : Int} (ha : 0 ≤ a ∧ a < 200) (hb : 0 ≤ b ∧ b < 200) (hc : 0 ≤ c ∧ c < 200) (hd : 0 ≤ d ∧ d < 200) : checkE [squareL a b c d] 0 = 0 := by
  have : [squareL a b c d].all (fun p => p.all ptOk) = true := by
    simp only [squareL, List.all_cons, List.all_nil, ptOk, Bool.and_true, Bool.and_eq_true, decide_eq_true_eq]; omega
  rw [checkE, this, if_neg (by omega), if_neg (by simp [total, squareL])]; rfl
theorem sq_has {a b c d x y : Int} (ha : 0 ≤ a ∧ a < 200) (hb : 0 ≤ b ∧ b < 200) (hc : 0 ≤ c ∧ c < 200) (hd : 0 ≤ d ∧ d < 200) (h : ¬ divI (65535 * (spn (min a c) (max a c) (16 * x) 16 * spn (min b d) (max b d) (16 * y) 16)) 256 = 0) : hasB (boxR [squareL a b c d]) ⟨x, y⟩ = true := by
  have h1 : 0 < spn (min a c) (max a c) (16 * x) 16 := by
    rcases Int.lt_or_eq_of_le (show 0 ≤ spn (min a c) (max a c) (16 * x) 16 by unfold spn; omega) with q | q
    · exact q
    · exfalso; apply h; rw [← q, Int.zero_mul]; rfl
  have h2 : 0 < spn (min b d) (max b d) (16 * y) 16 := by
    rcases Int.lt_or_eq_of_le (show 0 ≤ spn (min b d) (max b d) (16 * y) 16 by unfold spn; omega) with q | q
    · exact q
    · exfalso; apply h; rw [← q, Int.mul_zero]; rfl
  unfold spn at h1 h2
  have e : bAll [squareL a b c d].flatten = ⟨min (min (min (min 1048577 (a / 16)) (c / 16)) (c / 16)) (a / 16), min (min (min (min 1048577 (b / 16)) (b / 16)) (d / 16)) (d / 16), max (max (max (max (-1048577) (a / 16)) (c / 16)) (c / 16)) (a / 16), max (max (max (max (-1048577) (b / 16)) (b / 16)) (d / 16)) (d / 16)⟩ := rfl
  rw [boxR, if_pos (sq_ok ha hb hc hd), e, boxB]
  simp only
  rw [if_neg (by omega)]
  exact has_spec.2 ⟨empty_spec.2 (by simp only; omega), by simp only; omega⟩
end Go.Rect

set_option linter.unusedSimpArgs false
set_option linter.unusedVariables false
namespace Go.Eng
open Go.RowKit
/-- A mask without values, written out, is one with an empty slice. -/
theorem Fn.nilM {P : Program} {f : FuncId} {a : D} {r : RV} (n : Nat) (h : Fn P f [a, .agg [.i 0, .i 0, .sl n []]] r) : Fn P f [a, .agg [.i 0, .i 0, .v (.slice none 0 0)]] r := by
  refine Fn.mono (fun ok w vs hv => ?_) h
  simp only [RepL, RepDs, RepD] at hv ⊢
  obtain ⟨v, vs', rfl, h1, v2, vs2, rfl, ⟨us, rfl, hu⟩, h3⟩ := hv
  refine ⟨v, _, rfl, h1, _, _, rfl, ⟨us, rfl, ?_⟩, h3⟩
  obtain ⟨a1, b1, e1, r1, o1, a2, b2, e2, r2, o2, a3, b3, e3, r3, o3, r4⟩ := hu
  refine ⟨a1, b1, e1, r1, o1, a2, b2, e2, r2, o2, a3, b3, e3, ?_, o3, r4⟩
  rw [r3]
  exact ⟨by simp, .inl ⟨trivial, none, 0, rfl⟩⟩
end Go.Eng
namespace Go.Rect
open Go.Eng
theorem unMkN : unMk [.i 0, .i 0, .v (.slice none 0 0)] = ⟨0, 0, []⟩ := rfl
theorem meet_ne {a b : Rc} (h : emptyB (meetR a b) = false) : emptyB a = false := by
  rcases meet_cases a b with ⟨e, _⟩ | ⟨h1, _⟩
  · rw [e] at h; cases h
  · exact h1
/-! ### CoverSquares -/
theorem tm200 {a : Int} (h : 0 ≤ a ∧ a ≤ 255) : 0 ≤ a.tmod 200 ∧ a.tmod 200 < 200 := by
  rw [Int.tmod_eq_emod_of_nonneg h.1]; omega
theorem tmN {k : Nat} {w : Int} (h : 0 < w) : (k : Int).tmod w = ((k % w.toNat : Nat) : Int) := by
  rw [Int.tmod_eq_emod_of_nonneg (by omega), Int.natCast_emod, Int.toNat_of_nonneg (by omega)]
theorem tdN {k : Nat} {w : Int} (h : 0 < w) : (k : Int).tdiv w = ((k / w.toNat : Nat) : Int) := by
  rw [Int.tdiv_eq_ediv_of_nonneg (by omega), Int.natCast_ediv, Int.toNat_of_nonneg (by omega)]
theorem kwh {k : Nat} {w h : Int} (hw : 0 < w) (hh : 0 ≤ h) (hk : (k : Int) < w * h) : k % w.toNat < w.toNat ∧ k / w.toNat < h.toNat := by
  have e := nn_mul (w := w) (h := h) (by omega) hh
  refine ⟨Nat.mod_lt _ (by omega), ?_⟩
  rw [Nat.div_lt_iff_lt_mul (by omega), Nat.mul_comm]; omega
theorem spnE (lo hi x : Int) : max 0 (min hi (16 * x + 16) - max lo (16 * x)) = spn lo hi (16 * x) 16 := rfl
theorem spn_bd (lo hi x : Int) : 0 ≤ spn lo hi (16 * x) 16 ∧ spn lo hi (16 * x) 16 ≤ 16 := by unfold spn; omega
theorem sq_val {a b c d : Int} {r : Rc} {k : Nat} (hm : maskE [squareL a b c d] 0 r = 0) (he : emptyB r = false) (hk : (k : Int) < ((maskR [squareL a b c d] 0 r).v.length : Int)) :
    (maskR [squareL a b c d] 0 r).v.getD k 0 = divI (65535 * (spn (min a c) (max a c) (16 * (r.x + ((k % r.w.toNat : Nat) : Int))) 16 * spn (min b d) (max b d) (16 * (r.y + ((k / r.w.toNat : Nat) : Int))) 16)) 256 := by
  have e := (mask_ok hm he).2.2
  rw [e, VL_len] at hk
  rw [e, VL_get (by omega), mskV, val_sq]
theorem mul3 {p q : Int} : 65535 * p * q = 65535 * (p * q) := Int.mul_assoc _ _ _
theorem mul_16 {p q : Int} (h1 : 0 ≤ p ∧ p ≤ 16) (h2 : 0 ≤ q ∧ q ≤ 16) : 0 ≤ p * q ∧ p * q ≤ 256 := by
  have := Int.mul_le_mul h1.2 h2.2 h2.1 (by omega)
  exact ⟨Int.mul_nonneg h1.1 h2.1, by omega⟩
/-! ### CoverMoves -/
def MQ (p : List Pt) (dx dy : Int) (i : Nat) : List Pt := (p.take i).map (mvP dx dy)
def MV (ps : List (List Pt)) (dx dy : Int) (j : Nat) : List (List Pt) := (ps.take j).map fun p => p.map (mvP dx dy)
theorem MQ_len {p : List Pt} {dx dy : Int} {i : Nat} (h : i ≤ p.length) : (MQ p dx dy i).length = i := by simp [MQ]; omega
theorem MV_len {ps : List (List Pt)} {dx dy : Int} {i : Nat} (h : i ≤ ps.length) : (MV ps dx dy i).length = i := by simp [MV]; omega
theorem tkPly (l : List (List Pt)) : (l.map plyC).take l.length = l.map plyC := List.take_of_length_le (by simp)
theorem MQ_next {p : List Pt} {dx dy : Int} {i : Nat} (h : (i : Int) < (p.length : Int)) : (MQ p dx dy i).map ptC ++ [[.i ((p.getD i ⟨0, 0⟩).x + 16 * dx), .i ((p.getD i ⟨0, 0⟩).y + 16 * dy)]] = (MQ p dx dy (i + 1)).map ptC := by
  rw [MQ, MQ, take_succ' (z := (⟨0, 0⟩ : Pt)) h]; simp [mvP, ptC]
theorem MV_next {ps : List (List Pt)} {dx dy : Int} {j : Nat} (h : (j : Int) < (ps.length : Int)) : (MV ps dx dy j).map plyC ++ [[.sl 2 (((ps.getD j []).map (mvP dx dy)).map ptC)]] = (MV ps dx dy (j + 1)).map plyC := by
  rw [MV, MV, take_succ' (z := ([] : List Pt)) h]; simp [plyC, plyD]
theorem MQ_all {p : List Pt} {dx dy : Int} {i : Nat} (h : (p.length : Int) ≤ (i : Int)) : MQ p dx dy i = p.map (mvP dx dy) := by rw [MQ, List.take_of_length_le (by omega)]
theorem MV_all {ps : List (List Pt)} {dx dy : Int} {j : Nat} (h : (ps.length : Int) ≤ (j : Int)) : MV ps dx dy j = ps.map fun p => p.map (mvP dx dy) := by rw [MV, List.take_of_length_le (by omega)]
theorem sm_next {p : List Pt} {i : Nat} (h : (i : Int) < (p.length : Int)) (hI : ∀ a ∈ p.take i, smallP a = true) (hc : smallP (p.getD i ⟨0, 0⟩) = true) : ∀ a ∈ p.take (i + 1), smallP a = true := by
  rw [take_succ' (z := (⟨0, 0⟩ : Pt)) h]
  intro a ha
  simp only [List.mem_append, List.mem_singleton] at ha
  rcases ha with ha | rfl
  · exact hI a ha
  · exact hc
theorem sms_next {ps : List (List Pt)} {j : Nat} (h : (j : Int) < (ps.length : Int)) (hI : ∀ p ∈ ps.take j, ∀ a ∈ p, smallP a = true) (hc : ∀ a ∈ ps.getD j [], smallP a = true) : ∀ p ∈ ps.take (j + 1), ∀ a ∈ p, smallP a = true := by
  rw [take_succ' (z := ([] : List Pt)) h]
  intro a ha
  simp only [List.mem_append, List.mem_singleton] at ha
  rcases ha with ha | rfl
  · exact hI a ha
  · exact hc
theorem sm_in {p : Pt} (h : ((-1048576 ≤ p.x ∧ p.x ≤ 1048576) ∧ -1048576 ≤ p.y) ∧ p.y ≤ 1048576) : smallP p = true := by
  simp only [smallP, Bool.and_eq_true, decide_eq_true_eq]; omega
theorem getB {ps : List (List Pt)} {n : Nat} (h : ∀ p ∈ ps, p.length ≤ n) (j : Nat) : (ps.getD j []).length ≤ n := by
  rw [List.getD_eq_getElem?_getD]
  cases e : ps[j]? with
  | none => simp
  | some p => exact h p (List.mem_of_getElem? e)
theorem mvfin {m m' : Mk} {e e' : Int} (h : e' = e ∧ m' = m) : e = e' ∧ sameM ⟨m.w, m.h, m.v⟩ ⟨m'.w, m'.h, m'.v⟩ = true := by
  obtain ⟨rfl, rfl⟩ := h; exact ⟨rfl, by simp [sameM]⟩
/-! ### CoverCuts -/
def at0 (l : Nat) (n : Int) : Nat := n.toNat % l
theorem at0E {l : Nat} {n : Int} (h : 0 ≤ n) : n.tmod (l : Int) = ((at0 l n : Nat) : Int) := by
  rw [Int.tmod_eq_emod_of_nonneg h, at0, Int.natCast_emod, Int.toNat_of_nonneg h]
theorem at0L {l : Nat} {n : Int} (h : 0 < l) : at0 l n < l := Nat.mod_lt _ h
theorem tq1 {p : List Pt} {t : Nat} : (p.map ptC).take ((t : Int) + 1).toNat = (p.take (t + 1)).map ptC := by
  have : ((t : Int) + 1).toNat = t + 1 := by omega
  rw [this, List.map_take]
theorem tq2 {p : List Pt} {t : Nat} : (p.map ptC).drop t = (p.drop t).map ptC := by rw [List.map_drop]
theorem tq3 {l : List Pt} {q : Pt} : l.map ptC ++ [[.i q.x, .i q.y]] = (l ++ [q]).map ptC := by simp [ptC]
theorem tq4 {l : List Pt} {q : Pt} : (l.map ptC).length + 1 = (l ++ [q]).length := by simp
theorem tq5 {l : List Pt} : (l.map ptC).length = l.length := by simp
def cutB (p : List Pt) (t : Nat) : List Pt := p.drop t ++ [p.getD 0 ⟨0, 0⟩]
theorem cutB_e {p : List Pt} {t : Nat} : ((p.drop t).map ptC ++ [[D.i (p.getD 0 ⟨0, 0⟩).x, D.i (p.getD 0 ⟨0, 0⟩).y]]).take ((p.drop t).length + 1) = (cutB p t).map ptC := by
  rw [List.take_of_length_le (by simp), cutB]; simp [ptC]
theorem cut_m {p : List Pt} {t : Nat} (h2 : 2 ≤ p.length) (hl : p.length ≤ 2000) (hk : t < p.length) {rule : Int} (hr : rule = 0 ∨ rule = 1) (r : Rc) : maskE [p.take (t + 1), cutB p t] rule r = maskE [p] rule r ∧ maskR [p.take (t + 1), cutB p t] rule r = maskR [p] rule r := mask_cut h2 hl hk hr r
theorem cutfin {m m' : Mk} {e e' : Int} (h : e' = e ∧ m' = m) (hc : ¬ e = e' ∨ sameM ⟨m.w, m.h, m.v⟩ ⟨m'.w, m'.h, m'.v⟩ = false) : False := by
  obtain ⟨rfl, rfl⟩ := h
  simp [sameM] at hc
/-! ### CoverTurns -/
def RQ (p : List Pt) (i : Nat) : List Pt := p.reverse.take i
def SQ (p : List Pt) (i : Nat) : List Pt := (rotP p).take i
def RV' (ps : List (List Pt)) (j : Nat) : List (List Pt) := (ps.take j).map List.reverse
def SV (ps : List (List Pt)) (j : Nat) : List (List Pt) := (ps.take j).map rotP
theorem RQ_len {p : List Pt} {i : Nat} (h : i ≤ p.length) : (RQ p i).length = i := by simp [RQ]; omega
theorem SQ_len {p : List Pt} {i : Nat} (h : i ≤ p.length) : (SQ p i).length = i := by simp [SQ, rotP_len]; omega
theorem RV_len {ps : List (List Pt)} {i : Nat} (h : i ≤ ps.length) : (RV' ps i).length = i := by simp [RV']; omega
theorem SV_len {ps : List (List Pt)} {i : Nat} (h : i ≤ ps.length) : (SV ps i).length = i := by simp [SV]; omega
theorem rev_get {p : List Pt} {i : Nat} (h : i < p.length) : p.reverse.getD i ⟨0, 0⟩ = p.getD (p.length - 1 - i) ⟨0, 0⟩ := by
  simp only [List.getD_eq_getElem?_getD]; rw [List.getElem?_reverse h]
theorem rot_get {p : List Pt} {i : Nat} (h : i < p.length) : (rotP p).getD i ⟨0, 0⟩ = nxt p i := by
  cases p with
  | nil => simp at h
  | cons a l =>
    simp only [rotP, nxt, List.getD_eq_getElem?_getD, List.length_cons] at h ⊢
    by_cases g : i < l.length
    · rw [List.getElem?_append_left g, Nat.mod_eq_of_lt (by omega), List.getElem?_cons_succ]
    · have : i = l.length := by omega
      subst this
      rw [List.getElem?_append_right (Nat.le_refl _), Nat.mod_self]; simp
theorem RQ_next {p : List Pt} {i : Nat} (h : (i : Int) < (p.length : Int)) : (RQ p i).map ptC ++ [ptC (p.getD (p.length - 1 - i) ⟨0, 0⟩)] = (RQ p (i + 1)).map ptC := by
  rw [RQ, RQ, take_succ' (z := (⟨0, 0⟩ : Pt)) (by simpa using h), rev_get (by omega)]; simp
theorem SQ_next {p : List Pt} {i : Nat} (h : (i : Int) < (p.length : Int)) : (SQ p i).map ptC ++ [ptC (nxt p i)] = (SQ p (i + 1)).map ptC := by
  rw [SQ, SQ, take_succ' (z := (⟨0, 0⟩ : Pt)) (by rw [rotP_len]; exact h), rot_get (by omega)]; simp
theorem RQ_all {p : List Pt} {i : Nat} (h : (p.length : Int) ≤ (i : Int)) : RQ p i = p.reverse := by rw [RQ, List.take_of_length_le (by simp; omega)]
theorem SQ_all {p : List Pt} {i : Nat} (h : (p.length : Int) ≤ (i : Int)) : SQ p i = rotP p := by rw [SQ, List.take_of_length_le (by rw [rotP_len]; omega)]
theorem RV_next {ps : List (List Pt)} {j : Nat} (h : (j : Int) < (ps.length : Int)) : (RV' ps j).map plyC ++ [[.sl 2 ((ps.getD j []).reverse.map ptC)]] = (RV' ps (j + 1)).map plyC := by
  rw [RV', RV', take_succ' (z := ([] : List Pt)) h]; simp [plyC, plyD]
theorem SV_next {ps : List (List Pt)} {j : Nat} (h : (j : Int) < (ps.length : Int)) : (SV ps j).map plyC ++ [[.sl 2 ((rotP (ps.getD j [])).map ptC)]] = (SV ps (j + 1)).map plyC := by
  rw [SV, SV, take_succ' (z := ([] : List Pt)) h]; simp [plyC, plyD]
theorem RV_all {ps : List (List Pt)} {j : Nat} (h : (ps.length : Int) ≤ (j : Int)) : RV' ps j = ps.map List.reverse := by rw [RV', List.take_of_length_le (by omega)]
theorem SV_all {ps : List (List Pt)} {j : Nat} (h : (ps.length : Int) ≤ (j : Int)) : SV ps j = ps.map rotP := by rw [SV, List.take_of_length_le (by omega)]
theorem twice_neg (p : List Pt) : IntKind.i64.wrap (-twiceI p) = -twiceI p := by
  by_cases h : checkE [p] 0 = 0
  · have h1 := check0 h
    have h2 := twiceK_bd (p := p) (fun q hq => h1.2 p (by simp) q hq) p.length (Nat.le_refl _)
    have h3 : total [p] = p.length := by simp [total]
    rw [twiceI, if_pos h, w64 (by omega) (by omega)]
  · rw [twiceI, if_neg h]; rfl
theorem subI {n i : Nat} (h : (i : Int) < (n : Int)) (hn : n ≤ 281474976710656) : IntKind.i64.wrap (IntKind.i64.wrap ((n : Int) - 1) - (i : Int)) = ((n - 1 - i : Nat) : Int) := by
  rw [w64 (n := (n : Int) - 1) (by omega) (by omega), w64 (by omega) (by omega)]; omega
end Go.Rect

