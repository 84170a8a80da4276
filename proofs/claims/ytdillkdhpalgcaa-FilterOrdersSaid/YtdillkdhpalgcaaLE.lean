import Derived.Test.YtdillkdhpalgcaaLD
set_option linter.unusedSimpArgs false
set_option linter.unusedVariables false
set_option linter.unusedSimpArgs false
set_option linter.unusedVariables false
namespace Go.Rect
open Go.Eng
/-! ### Binomial coefficients -/
theorem pas_tab : ∀ k, k < 15 → ∀ j, j < 16 → 0 ≤ pF k j ∧ pF k j ≤ 3432 := by decide +kernel
theorem pas_len : ∀ n, (pascal n).length = n + 1
  | 0 => rfl
  | n + 1 => by simp [pascal, pas_len n]
theorem pas_bd {k : Nat} (hk : k ≤ 14) (j : Nat) : 0 ≤ pF k j ∧ pF k j ≤ 3432 := by
  by_cases h : j < 16
  · exact pas_tab k (by omega) j h
  · rw [pF, List.getD_eq_getElem?_getD, List.getElem?_eq_none (by rw [pas_len]; omega)]; simp
theorem pas_q : ∀ n, n < 15 → ∀ i, i < 15 → 1 ≤ i → i ≤ n → (pF n (i - 1) * ((n : Int) - i + 1)).tdiv i = pF n i := by decide +kernel
theorem pas_s : ∀ n, n < 14 → ∀ i, i < 15 → 1 ≤ i → i ≤ n → pF n (i - 1) + pF n i = pF (n + 1) i := by decide +kernel
theorem pas_0 : ∀ n, n < 15 → pF n 0 = 1 := by decide +kernel
theorem pas_n : ∀ n, n < 15 → pF n n = 1 := by decide +kernel
theorem fil_get {n k i : Nat} {f : Nat → Int} (hi : i < k) (hn : i < n) : (fil n f k).getD i 0 = f i := by rw [fil, tab_getD hn, if_pos hi]
theorem bnS {k i : Nat} (hk : k ≤ 14) (h1 : 1 ≤ i) (h2 : (i : Int) ≤ (k : Int)) : (IntKind.i64.wrap ((fil (k + 1) (pF k) i).getD ((i : Int) - 1).toNat 0 * ((k : Int) - i + 1))).tdiv i = pF k i := by
  have e : ((i : Int) - 1).toNat = i - 1 := by omega
  rw [e, fil_get (by omega) (by omega)]
  have b := pas_bd hk (i - 1)
  have b2 := Int.mul_le_mul b.2 (show (k : Int) - i + 1 ≤ 14 by omega) (by omega) (by omega)
  have b3 := Int.mul_nonneg b.1 (show 0 ≤ (k : Int) - i + 1 by omega)
  rw [w64 (by omega) (by omega)]
  exact pas_q k (by omega) i (by omega) h1 (by omega)
theorem tgI {n i : Nat} {f : Nat → Int} (h : (i : Int) < ((n : Nat) : Int)) : (tab n f).getD i 0 = f i := tab_getD (by omega)
theorem bin_1 {k : Nat} (hk : k ≤ 14) : ((List.replicate (k + 1) (0 : Int)).set 0 1).map iC = (fil (k + 1) (pF k) 1).map iC := by
  rw [fil_0 (k + 1) (pF k), fil_set (pas_0 k (by omega)).symm]
theorem tab1 {k : Nat} (hk : k ≤ 14) : [[D.i 1]] = (tab 1 (pF k)).map iC := by
  have := pas_0 k (by omega)
  simp [tab, this, iC]
theorem bn_next {k i : Nat} (hk : k < 14) (h1 : 1 ≤ i) (h2 : (i : Int) < ((k + 1 : Nat) : Int)) : (tab (k + 1) (pF k)).getD ((i : Int) - 1).toNat 0 + (tab (k + 1) (pF k)).getD i 0 = pF (k + 1) i := by
  have e : ((i : Int) - 1).toNat = i - 1 := by omega
  rw [e, tab_getD (by omega), tab_getD (by omega)]
  exact pas_s k (by omega) i (by omega) h1 (by omega)
theorem tab_b {k : Nat} (hk : k ≤ 14) (n i : Nat) : 0 ≤ (tab n (pF k)).getD i 0 ∧ (tab n (pF k)).getD i 0 ≤ 3432 := by
  by_cases h : i < n
  · rw [tab_getD h]; exact pas_bd hk i
  · rw [List.getD_eq_getElem?_getD, List.getElem?_eq_none (by rw [tab_len]; omega)]; simp
theorem bn_end {k i : Nat} (hk : k < 14) (h1 : i = k + 1) : (tab i (pF (k + 1))).map iC ++ [[D.i 1]] = (tab (k + 2) (pF (k + 1))).map iC := by
  subst h1
  exact tab_app (pas_n (k + 1) (by omega)).symm
/-! ### Sums of rows -/
theorem sum2_succ (g : Nat → Nat → Int) (n j i : Nat) : sum2 g n j (i + 1) = sum2 g n j i + g j i := by
  simp only [sum2, List.range_succ, List.map_append, List.sum_append, List.map_cons, List.map_nil, List.sum_cons, List.sum_nil]; omega
theorem sum2_over (g : Nat → Nat → Int) {n j i : Nat} (hi : i = n) : sum2 g n j i = sum2 g n (j + 1) 0 := by
  subst hi
  simp only [sum2, List.range_succ (n := j), List.map_append, List.sum_append, List.map_cons, List.map_nil, List.sum_cons, List.sum_nil, List.range_zero]; omega
theorem sum2_bd {g : Nat → Nat → Int} {B : Int} (hg : ∀ j i, 0 ≤ g j i ∧ g j i ≤ B) (n : Nat) : ∀ (j i : Nat), i ≤ n → 0 ≤ sum2 g n j i ∧ sum2 g n j i ≤ B * ((j * n + i : Nat) : Int)
  | 0, 0, _ => by simp [sum2]
  | j + 1, 0, _ => by
    have := sum2_bd hg n j n (Nat.le_refl _)
    rw [← sum2_over g (i := n) rfl]
    have e : (j + 1) * n + 0 = j * n + n := by rw [Nat.add_mul]; omega
    rw [e]; exact this
  | j, i + 1, h => by
    have h1 := sum2_bd hg n j i (by omega); have h2 := hg j i
    rw [sum2_succ]
    have e : B * ((j * n + (i + 1) : Nat) : Int) = B * ((j * n + i : Nat) : Int) + B := by
      rw [← Nat.add_assoc, Int.natCast_add (j * n + i) 1, Int.mul_add]; simp
    rw [e]; omega
theorem clamp_bd {m : Mk} (hm : mchkE m = 0) (x y : Int) : 0 ≤ clampM m x y ∧ clampM m x y ≤ 65535 := (mchk0 hm).2.2.2 _
theorem pq_bd {p q : Int} (hp : 0 ≤ p ∧ p ≤ 3432) (hq : 0 ≤ q ∧ q ≤ 3432) : 0 ≤ p * q ∧ p * q ≤ 11778624 := by
  have := Int.mul_le_mul hp.2 hq.2 hq.1 (by omega)
  exact ⟨Int.mul_nonneg hp.1 hq.1, by omega⟩
theorem pqv_bd {p v : Int} (hp : 0 ≤ p ∧ p ≤ 11778624) (hv : 0 ≤ v ∧ v ≤ 65535) : 0 ≤ p * v ∧ p * v ≤ 771912123840 := by
  have := Int.mul_le_mul hp.2 hv.2 hv.1 (by omega)
  exact ⟨Int.mul_nonneg hp.1 hv.1, by omega⟩
theorem ftT_bd {m : Mk} (hm : mchkE m = 0) {R : Nat} (hR : R ≤ 7) (x y : Int) (j i : Nat) : 0 ≤ ftT m R x y j i ∧ ftT m R x y j i ≤ 771912123840 :=
  pqv_bd (pq_bd (pas_bd (k := 2 * R) (by omega) i) (pas_bd (k := 2 * R) (by omega) j)) (clamp_bd hm _ _)
theorem ft_sum {m : Mk} (hm : mchkE m = 0) {R : Nat} (hR : R ≤ 7) (x y : Int) {j i : Nat} (hj : j ≤ 15) (hi : i ≤ 2 * R + 1) : 0 ≤ sum2 (ftT m R x y) (2 * R + 1) j i ∧ sum2 (ftT m R x y) (2 * R + 1) j i ≤ 197609503703040 := by
  have h := sum2_bd (ftT_bd hm hR x y) (2 * R + 1) j i hi
  have : j * (2 * R + 1) + i ≤ 240 := by
    have : j * (2 * R + 1) ≤ 15 * 15 := Nat.mul_le_mul hj (by omega)
    omega
  omega
theorem cl_b {m : Mk} (hm : mchkE m = 0) (hw : 0 < m.w) (X Y : Int) : 0 ≤ m.w * min (max Y 0) (m.h - 1) ∧ m.w * min (max Y 0) (m.h - 1) ≤ 65536 ∧ 0 ≤ m.w * min (max Y 0) (m.h - 1) + min (max X 0) (m.w - 1) ∧ m.w * min (max Y 0) (m.h - 1) + min (max X 0) (m.w - 1) < (m.v.length : Int) ∧ (m.v.length : Int) ≤ 65536 := by
  have h := mchk0 hm
  have z := h.1
  have hh : 0 < m.h := by
    have := h.2.1
    unfold Z0 at z
    have : ¬ m.h = 0 := fun g => by have := this.2 g; omega
    omega
  have a := atI (m := m) (x := min (max X 0) (m.w - 1)) (y := min (max Y 0) (m.h - 1)) hm (insM_T.2 (by unfold Z0 at z; omega))
  rw [Int.mul_comm] at a
  exact a
theorem sh4 : ∀ R : Nat, R < 8 → IntKind.i64.wrap (1 * 2 ^ ((4 * (R : Int))).toNat) = 2 ^ (4 * R) ∧ (1 : Int) ≤ 2 ^ (4 * R) ∧ (2 : Int) ^ (4 * R) ≤ 268435456 := by decide +kernel
theorem p2 : ∀ k : Nat, k < 29 → (1 : Int) ≤ 2 ^ k ∧ (2 : Int) ^ k ≤ 268435456 ∧ (2 : Int) ^ k * 2 = 2 ^ (k + 1) := by decide +kernel
theorem fe1 {m : Mk} {r : Int} (hc : ¬ mchkE m = 0) : feaR m r = ⟨0, 0, []⟩ ∧ feaE m r = mchkE m := by
  have e : feaE m r = mchkE m := by rw [feaE, if_pos hc]
  exact ⟨by rw [feaR, if_neg (by rw [e]; exact hc)]; rfl, e⟩
theorem fe2 {m : Mk} {r : Int} (hm : mchkE m = 0) (hc : r < 0 ∨ 7 < r) : feaR m r = ⟨0, 0, []⟩ ∧ feaE m r = 2 := by
  have e : feaE m r = 2 := by rw [feaE, if_neg (by simp [hm]), if_pos hc]
  exact ⟨by rw [feaR, if_neg (by rw [e]; decide)]; rfl, e⟩
theorem fe3 {m : Mk} {R : Nat} (hm : mchkE m = 0) (hR : R ≤ 7) : feaR m R = ⟨m.w, m.h, tab (nn m.w m.h) (gF m.w.toNat (fF m R))⟩ ∧ feaE m R = 0 := by
  have e : feaE m R = 0 := by rw [feaE, if_neg (by simp [hm]), if_neg (by omega)]
  exact ⟨by rw [feaR, if_pos e]; rfl, e⟩
theorem fFE {m : Mk} {R : Nat} {x y : Int} : divI (sum2 (ftT m R x y) (2 * R + 1) (2 * R + 1) 0) (2 ^ (4 * R)) = fF m R x y := by rw [fF, Int.toNat_natCast]
theorem t2R (R : Nat) : (2 * (R : Int)).toNat = 2 * R := by omega
theorem ft_pick {m : Mk} (hm : mchkE m = 0) (hw : 0 < m.w) (X Y : Int) : pickM m (min (max X 0) (m.w - 1)) (min (max Y 0) (m.h - 1)) = clampM m X Y := by
  have h := mchk0 hm
  have z := h.1
  have hh : 0 < m.h := by
    have := h.2.1
    unfold Z0 at z
    have : ¬ m.h = 0 := fun g => by have := this.2 g; omega
    omega
  rw [pickM, if_pos (insM_T.2 (by unfold Z0 at z; omega)), clampM, Int.mul_comm]
/-! ### Growing -/
theorem gst_out {m : Mk} {x y n f j i : Int} (h : n * n < i * i + j * j ∨ insM m (x + i) (y + j) = false) : gst m x y n f j i = f := by rw [gst, if_pos h]
theorem gst_in {m : Mk} {x y n f j i : Int} (h1 : ¬ n * n < i * i + j * j) (h2 : insM m (x + i) (y + j) = true) : gst m x y n f j i = if 0 ≤ n then max f (m.v.getD ((y + j) * m.w + (x + i)).toNat 0) else min f (m.v.getD ((y + j) * m.w + (x + i)).toNat 0) := by
  rw [gst, if_neg]
  rintro (g | g)
  · exact h1 g
  · rw [h2] at g; cases g
theorem grow1_succ (m : Mk) (x y n f j : Int) (l k : Nat) : grow1 m x y n f j l (k + 1) = gst m x y n (grow1 m x y n f j l k) j ((k : Int) - l) := by
  simp [grow1, List.range_succ]
theorem growK_succ (m : Mk) (x y n : Int) (l j i : Nat) : growK m x y n l j (i + 1) = gst m x y n (growK m x y n l j i) ((j : Int) - l) ((i : Int) - l) := grow1_succ ..
theorem growK_over (m : Mk) (x y n : Int) (l j : Nat) : growK m x y n l j (2 * l + 1) = growK m x y n l (j + 1) 0 := by
  simp only [growK, List.range_succ (n := j), List.foldl_append, List.foldl_cons, List.foldl_nil]
  simp [grow1]
theorem growK_skip {m : Mk} {x y n : Int} {l j a : Nat} : ∀ (b : Nat), a ≤ b → (∀ i, a ≤ i → i < b → n * n < ((i : Int) - l) * ((i : Int) - l) + ((j : Int) - l) * ((j : Int) - l) ∨ insM m (x + ((i : Int) - l)) (y + ((j : Int) - l)) = false) → growK m x y n l j b = growK m x y n l j a
  | 0, h, _ => by have : a = 0 := by omega
                  subst this; rfl
  | b + 1, h, hh => by
    by_cases e : a = b + 1
    · rw [e]
    · rw [growK_succ, gst_out (hh b (by omega) (by omega)), growK_skip b (by omega) fun i h1 h2 => hh i h1 (by omega)]
theorem growK_row {m : Mk} {x y n : Int} {l j : Nat} (h : ∀ i, insM m (x + ((i : Int) - l)) (y + ((j : Int) - l)) = false) : growK m x y n l (j + 1) 0 = growK m x y n l j 0 := by
  rw [← growK_over, growK_skip (a := 0) _ (by omega) fun i _ _ => .inr (h i)]
theorem growK_rows {m : Mk} {x y n : Int} {l a : Nat} : ∀ (b : Nat), a ≤ b → (∀ j : Nat, a ≤ j → j < b → y + ((j : Int) - l) < 0 ∨ m.h ≤ y + ((j : Int) - l)) → growK m x y n l b 0 = growK m x y n l a 0
  | 0, h, _ => by have : a = 0 := by omega
                  subst this; rfl
  | b + 1, h, hh => by
    by_cases e : a = b + 1
    · rw [e]
    · rw [growK_row fun i => insM_F.2 (by have := hh b (by omega) (by omega); omega), growK_rows b (by omega) fun j h1 h2 => hh j h1 (by omega)]
/-- The state of the loops, by integers. -/
def gK (m : Mk) (x y n j i : Int) : Int := growK m x y n n.natAbs (j + n.natAbs).toNat (i + n.natAbs).toNat
theorem gK_0 {m : Mk} {x y n : Int} (hy : 0 ≤ y) : m.v.getD (y * m.w + x).toNat 0 = growK m x y n n.natAbs (max (-(n.natAbs : Int)) (-y) + n.natAbs).toNat 0 := by
  rw [growK_rows (a := 0) _ (by omega) fun j _ h2 => by left; omega]
  rfl
theorem gK_all {m : Mk} {x y n j : Int} (hy : y < m.h) (hj : -(n.natAbs : Int) ≤ j) (hj2 : min (n.natAbs : Int) (m.h - 1 - y) < j) (hj3 : j ≤ n.natAbs + 1) : growK m x y n n.natAbs (j + n.natAbs).toNat 0 = gwF m n x y := by
  rw [gwF]
  symm
  apply growK_rows _ (by omega)
  intro j' h1 h2
  right; omega
theorem gK_i0 {m : Mk} {x y n j : Int} (hx : 0 ≤ x) : growK m x y n n.natAbs (j + n.natAbs).toNat 0 = gK m x y n j (max (-(n.natAbs : Int)) (-x)) := by
  rw [gK]
  symm
  apply growK_skip _ (by omega)
  intro i h1 h2
  right; exact insM_F.2 (by omega)
theorem gK_i1 {m : Mk} {x y n j i : Int} (hx : x < m.w) (hj : -(n.natAbs : Int) ≤ j) (hi : -(n.natAbs : Int) ≤ i) (hi2 : min (n.natAbs : Int) (m.w - 1 - x) < i) (hi3 : i ≤ n.natAbs + 1) : gK m x y n j i = growK m x y n n.natAbs (j + 1 + n.natAbs).toNat 0 := by
  have e : (j + 1 + (n.natAbs : Int)).toNat = (j + n.natAbs).toNat + 1 := by omega
  rw [e, ← growK_over, gK]
  symm
  apply growK_skip _ (by omega)
  intro i' h1 h2
  right; exact insM_F.2 (by omega)
theorem gK_step {m : Mk} {x y n j i : Int} (hj : -(n.natAbs : Int) ≤ j) (hi : -(n.natAbs : Int) ≤ i) : gK m x y n j (i + 1) = gst m x y n (gK m x y n j i) j i := by
  have e : (i + 1 + (n.natAbs : Int)).toNat = (i + n.natAbs).toNat + 1 := by omega
  rw [gK, e, growK_succ, gK]
  have e1 : (((j + (n.natAbs : Int)).toNat : Nat) : Int) - n.natAbs = j := by omega
  have e2 : (((i + (n.natAbs : Int)).toNat : Nat) : Int) - n.natAbs = i := by omega
  rw [e1, e2]
theorem gw1 {m : Mk} {n : Int} (hc : ¬ mchkE m = 0) : gwR m n = ⟨0, 0, []⟩ ∧ gwE m n = mchkE m := by
  have e : gwE m n = mchkE m := by rw [gwE, if_pos hc]
  exact ⟨by rw [gwR, if_neg (by rw [e]; exact hc)]; rfl, e⟩
theorem gw2 {m : Mk} {n : Int} (hm : mchkE m = 0) (hc : n < -16 ∨ 16 < n) : gwR m n = ⟨0, 0, []⟩ ∧ gwE m n = 2 := by
  have e : gwE m n = 2 := by rw [gwE, if_neg (by simp [hm]), if_pos hc]
  exact ⟨by rw [gwR, if_neg (by rw [e]; decide)]; rfl, e⟩
theorem gw3 {m : Mk} {n : Int} (hm : mchkE m = 0) (hn : -16 ≤ n ∧ n ≤ 16) : gwR m n = ⟨m.w, m.h, tab (nn m.w m.h) (gF m.w.toNat (gwF m n))⟩ ∧ gwE m n = 0 := by
  have e : gwE m n = 0 := by rw [gwE, if_neg (by simp [hm]), if_neg (by omega)]
  exact ⟨by rw [gwR, if_pos e]; rfl, e⟩
theorem mx_abs (n : Int) : max n (-n) = n.natAbs := by omega
theorem mx_abs0 (n : Int) : max n (0 - n) = n.natAbs := by omega
theorem sqnn (i : Int) : 0 ≤ i * i := by rw [← Int.natAbs_mul_self]; exact Int.natCast_nonneg _
theorem sq_b {i : Int} (h : -32 ≤ i ∧ i ≤ 32) : 0 ≤ i * i ∧ i * i ≤ 1024 := by
  have h2 : (i * i).natAbs ≤ 32 * 32 := by rw [Int.natAbs_mul]; exact Nat.mul_le_mul (by omega) (by omega)
  have := sqnn i
  omega
theorem g0_all {m : Mk} {x y : Int} (l j i : Nat) : (∀ f j i, f = m.v.getD (y * m.w + x).toNat 0 → gst m x y 0 f j i = f) → growK m x y 0 l j i = m.v.getD (y * m.w + x).toNat 0 := by
  intro h
  have h1 : ∀ k f j, f = m.v.getD (y * m.w + x).toNat 0 → grow1 m x y 0 f j l k = f := by
    intro k f j hf
    induction k with
    | zero => rfl
    | succ k ih => rw [grow1_succ, ih, h _ _ _ hf]
  have h2 : ∀ k, (List.range k).foldl (fun f (j' : Nat) => grow1 m x y 0 f ((j' : Int) - l) l (2 * l + 1)) (m.v.getD (y * m.w + x).toNat 0) = m.v.getD (y * m.w + x).toNat 0 := by
    intro k
    induction k with
    | zero => rfl
    | succ k ih => rw [List.range_succ, List.foldl_append, ih]; simp only [List.foldl_cons, List.foldl_nil]; exact h1 _ _ _ rfl
  rw [growK, h2]; exact h1 _ _ _ rfl
theorem g0_st {m : Mk} {x y : Int} : ∀ f j i, f = m.v.getD (y * m.w + x).toNat 0 → gst m x y 0 f j i = f := by
  intro f j i hf
  by_cases h : (0 : Int) * 0 < i * i + j * j ∨ insM m (x + i) (y + j) = false
  · exact gst_out h
  · have h1 : ¬ (0 : Int) * 0 < i * i + j * j := fun g => h (.inl g)
    have a := sqnn i; have b := sqnn j
    have ei : i = 0 := by
      have : i * i = 0 := by omega
      rcases Int.mul_eq_zero.1 this with q | q <;> exact q
    have ej : j = 0 := by
      have : j * j = 0 := by omega
      rcases Int.mul_eq_zero.1 this with q | q <;> exact q
    subst ei ej
    cases g : insM m (x + 0) (y + 0)
    · exact gst_out (.inr g)
    · rw [gst_in h1 g]; simp only [Int.add_zero]; rw [← hf]; simp
theorem gK_n0 {m : Mk} {x y j i : Int} : gK m x y 0 j i = m.v.getD (y * m.w + x).toNat 0 := g0_all _ _ _ g0_st
theorem gst_max {m : Mk} {x y n f j i v : Int} (hn : 0 ≤ n) (h1 : i * i + j * j ≤ n * n) (h2 : insM m (x + i) (y + j) = true) (hv : v = m.v.getD ((y + j) * m.w + (x + i)).toNat 0) : max f v = gst m x y n f j i := by
  rw [gst_in (by omega) h2, if_pos hn, hv]
theorem gst_min {m : Mk} {x y n f j i v : Int} (hn : n < 0) (h1 : i * i + j * j ≤ n * n) (h2 : insM m (x + i) (y + j) = true) (hv : v = m.v.getD ((y + j) * m.w + (x + i)).toNat 0) : min f v = gst m x y n f j i := by
  rw [gst_in (by omega) h2, if_neg (by omega), hv]
/-! ### Crop -/
theorem fil_skip {n k : Nat} {f : Nat → Int} (h : f k = 0) : fil n f k = fil n f (k + 1) := by
  unfold fil; apply tab_ext; intro i _
  by_cases e : i = k
  · subst e; rw [if_neg (by omega), if_pos (by omega), h]
  · by_cases g : i < k
    · rw [if_pos g, if_pos (by omega)]
    · rw [if_neg g, if_neg (by omega)]
theorem cp1 {m : Mk} {r : Rc} (hc : ¬ mchkE m = 0) : cropR m r = ⟨0, 0, []⟩ ∧ cropE m r = mchkE m := by
  have e : cropE m r = mchkE m := by rw [cropE, if_pos hc]
  exact ⟨by rw [cropR, if_neg (by rw [e]; exact fun g => hc g.1)]; rfl, e⟩
theorem cp2 {m : Mk} {r : Rc} (hm : mchkE m = 0) (hc : validB r = false) : cropR m r = ⟨0, 0, []⟩ ∧ cropE m r = 2 := by
  have e : cropE m r = 2 := by rw [cropE, if_neg (by simp [hm]), hc]; rfl
  exact ⟨by rw [cropR, if_neg (by rw [e]; simp)]; rfl, e⟩
theorem cp3 {m : Mk} {r : Rc} (hm : mchkE m = 0) (hv : validB r = true) (hc : 256 < r.w ∨ 256 < r.h) : cropR m r = ⟨0, 0, []⟩ ∧ cropE m r = 15 := by
  have e : cropE m r = 15 := by rw [cropE, if_neg (by simp [hm]), hv, if_pos rfl, if_pos hc]
  exact ⟨by rw [cropR, if_neg (by rw [e]; simp)]; rfl, e⟩
theorem cp0 {m : Mk} {r : Rc} (hm : mchkE m = 0) (hv : validB r = true) (hs : r.w ≤ 256 ∧ r.h ≤ 256) : cropE m r = 0 := by
  rw [cropE, if_neg (by simp [hm]), hv, if_pos rfl, if_neg (by omega)]
theorem cp4 {m : Mk} {r : Rc} (hm : mchkE m = 0) (hv : validB r = true) (hs : r.w ≤ 256 ∧ r.h ≤ 256) (hc : m.w = 0 ∨ emptyB r = true) : cropR m r = ⟨0, 0, []⟩ ∧ cropE m r = 0 := by
  refine ⟨?_, cp0 hm hv hs⟩
  rw [cropR, if_neg]; rfl
  rintro ⟨_, g1, g2⟩
  rcases hc with hc | hc
  · exact g1 hc
  · rw [hc] at g2; cases g2
theorem cp5 {m : Mk} {r : Rc} (hm : mchkE m = 0) (hv : validB r = true) (hs : r.w ≤ 256 ∧ r.h ≤ 256) (hc : ¬ m.w = 0 ∧ emptyB r = false) : cropR m r = ⟨r.w, r.h, tab (nn r.w r.h) (gF r.w.toNat (crF' m r))⟩ ∧ cropE m r = 0 := by
  refine ⟨?_, cp0 hm hv hs⟩
  rw [cropR, if_pos ⟨cp0 hm hv hs, hc.1, hc.2⟩]; rfl
theorem cp_sz {r : Rc} (hs : r.w ≤ 256 ∧ r.h ≤ 256) (he : emptyB r = false) : SzOk r.w r.h ∧ -1048576 ≤ r.x ∧ r.x ≤ 1048576 ∧ -1048576 ≤ r.y ∧ r.y ≤ 1048576 := by
  have := empty_spec.1 he; unfold SzOk; omega
theorem cp_out {m : Mk} {r : Rc} {x y : Int} (hc : insM m (r.x + x) (r.y + y) = false) : crF' m r x y = 0 := by rw [crF', pickM, hc]; rfl
theorem cp_in {m : Mk} {r : Rc} {x y : Int} (hc : insM m (r.x + x) (r.y + y) = true) : m.v.getD ((r.y + y) * m.w + (r.x + x)).toNat 0 = crF' m r x y := by rw [crF', pickM, hc]; rfl
/-! ### Box -/
theorem mbK_succ (m : Mk) (k : Nat) : mbK m (k + 1) = mbst m (mbK m k) k := by simp [mbK, List.range_succ]
theorem mb_on {m : Mk} {y x : Nat} (hx : x < m.w.toNat) (hc : 0 < m.v.getD (y * m.w.toNat + x) 0) : mbK m (y * m.w.toNat + (x + 1)) = ⟨min (mbK m (y * m.w.toNat + x)).x0 x, min (mbK m (y * m.w.toNat + x)).y0 y, max (mbK m (y * m.w.toNat + x)).x1 x, max (mbK m (y * m.w.toNat + x)).y1 y⟩ := by
  have e := (kdm hx (y * m.w.toNat + x)).1 rfl
  rw [← Nat.add_assoc, mbK_succ, mbst, if_pos hc, e.1, e.2]
theorem mb_off {m : Mk} {y x : Nat} (hc : m.v.getD (y * m.w.toNat + x) 0 ≤ 0) : mbK m (y * m.w.toNat + (x + 1)) = mbK m (y * m.w.toNat + x) := by
  rw [← Nat.add_assoc, mbK_succ, mbst, if_neg (by omega)]
/-- Nothing is seen yet, or the box is a box. -/
def MbOk (m : Mk) (b : B4) : Prop := b = mb0 m ∨ (0 ≤ b.x0 ∧ b.x0 ≤ b.x1 ∧ b.x1 < m.w ∧ 0 ≤ b.y0 ∧ b.y0 ≤ b.y1 ∧ b.y1 < m.h)
theorem mb_ok {m : Mk} (hz : 0 ≤ m.w ∧ 0 ≤ m.h) : ∀ k, k ≤ nn m.w m.h → MbOk m (mbK m k)
  | 0, _ => .inl rfl
  | k + 1, hk => by
    have ih := mb_ok hz k (by omega)
    rw [mbK_succ, mbst]
    split
    · right
      have hw : 0 < m.w.toNat := by
        rcases Nat.eq_zero_or_pos m.w.toNat with q | q
        · unfold nn at hk; rw [q, Nat.zero_mul] at hk; omega
        · exact q
      have b1 := Nat.mod_lt k hw
      have b2 : k / m.w.toNat < m.h.toNat := by rw [Nat.div_lt_iff_lt_mul hw, Nat.mul_comm]; unfold nn at hk; omega
      generalize k % m.w.toNat = p at b1 ⊢
      generalize k / m.w.toNat = q at b2 ⊢
      rcases ih with e | e
      · rw [e]; simp only [mb0]; omega
      · simp only; omega
    · exact ih
theorem mb_join {m : Mk} {b : B4} {x y : Int} (hz : Z0 m.w m.h) (h : MbOk m b) (hx : 0 ≤ x ∧ x < m.w) (hy : 0 ≤ y ∧ y < m.h) : joinR (b4R b) ⟨x, y, 1, 1⟩ = b4R ⟨min b.x0 x, min b.y0 y, max b.x1 x, max b.y1 y⟩ := by
  unfold Z0 at hz
  have ne : emptyB (⟨x, y, 1, 1⟩ : Rc) = false := empty_spec.2 (by simp only; omega)
  rcases h with e | e
  · rw [e]
    have e1 : b4R (mb0 m) = zR := rfl
    have e2 : b4R ⟨min (mb0 m).x0 x, min (mb0 m).y0 y, max (mb0 m).x1 x, max (mb0 m).y1 y⟩ = ⟨x, y, 1, 1⟩ := by
      show (if max (-1) x < 0 then zR else (⟨min m.w x, min m.h y, max (-1) x - min m.w x + 1, max (-1) y - min m.h y + 1⟩ : Rc)) = _
      rw [if_neg (by omega)]
      apply Rc.ext'; simp only; omega
    rw [e1, e2, joinR, ne, empty_z]; rfl
  · have e1 : b4R b = ⟨b.x0, b.y0, b.x1 - b.x0 + 1, b.y1 - b.y0 + 1⟩ := by rw [b4R, if_neg (by omega)]
    have n1 : emptyB (⟨b.x0, b.y0, b.x1 - b.x0 + 1, b.y1 - b.y0 + 1⟩ : Rc) = false := empty_spec.2 (by simp only; omega)
    rw [e1, joinR, n1, ne]
    simp only [Bool.and_false, Bool.false_eq_true, if_false, betweenR, b4R]
    rw [if_neg (by omega), if_neg (by omega)]
    apply Rc.ext'; simp only; omega
theorem bx_1 {m : Mk} (hc : ¬ mchkE m = 0) : zR = mboxR m := by rw [mboxR, if_neg hc]
theorem bx_2 {m : Mk} {y : Nat} (hm : mchkE m = 0) (hY : y ≤ m.h.toNat) (hy : m.h ≤ (y : Int)) : b4R (mbK m (y * m.w.toNat)) = mboxR m := by
  have : y = m.h.toNat := by omega
  rw [mboxR, if_pos hm, nn, this, Nat.mul_comm]
theorem bx_z {b : B4} (h : b.x1 < 0) : zR = b4R b := by rw [b4R, if_pos h]
theorem bx_n {b : B4} (h : 0 ≤ b.x1) : (⟨b.x0, b.y0, b.x1 - b.x0 + 1, b.y1 - b.y0 + 1⟩ : Rc) = b4R b := by rw [b4R, if_neg (by omega)]
end Go.Rect

set_option linter.unusedSimpArgs false
set_option linter.unusedVariables false
namespace Go.Rect
open Go.Eng
theorem toN1 (k : Nat) : ((k : Int) + 1).toNat = k + 1 := by omega
theorem clampE {m : Mk} {X Y : Int} : m.v.getD (m.w * min (max Y 0) (m.h - 1) + min (max X 0) (m.w - 1)).toNat 0 = clampM m X Y := rfl
theorem rIx {R i : Nat} : (R : Int) + ((i : Int) - R) = i := by omega
theorem adE {x i R : Int} : x + (i - R) = x + i - R := by omega
theorem adA {y w x z : Int} : y * w + x + z = y * w + (x + z) := by omega
theorem sh_b {R : Nat} (hR : R ≤ 7) : 4 * (R : Int) ≤ ((IntKind.i64.bits : Nat) : Int) := by
  show 4 * (R : Int) ≤ ((64 : Nat) : Int)
  omega
theorem gr_0 {m : Mk} {x y : Nat} {n : Int} (hy : (y : Int) < m.h) (hx : (x : Int) < m.w) : pickM m x y = growK m x y n n.natAbs (-(n.natAbs : Int) + n.natAbs).toNat 0 := by
  have : (-(n.natAbs : Int) + n.natAbs).toNat = 0 := by omega
  rw [this, pickM, if_pos (insM_T.2 (by omega))]; rfl
theorem gr_i0 {m : Mk} {x y n j : Int} : growK m x y n n.natAbs (j + n.natAbs).toNat 0 = gK m x y n j (-(n.natAbs : Int)) := by
  have : (-(n.natAbs : Int) + n.natAbs).toNat = 0 := by omega
  rw [gK, this]
theorem gr_i1 {m : Mk} {x y n j i : Int} (hj : -(n.natAbs : Int) ≤ j) (hi : i = n.natAbs + 1) : gK m x y n j i = growK m x y n n.natAbs (j + 1 + n.natAbs).toNat 0 := by
  have e : (j + 1 + (n.natAbs : Int)).toNat = (j + n.natAbs).toNat + 1 := by omega
  have e2 : (i + (n.natAbs : Int)).toNat = 2 * n.natAbs + 1 := by omega
  rw [e, ← growK_over, gK, e2]
theorem gKE {m : Mk} {x y n j : Int} (hj : j = n.natAbs + 1) : growK m x y n n.natAbs (j + n.natAbs).toNat 0 = gwF m n x y := by
  have e : (j + (n.natAbs : Int)).toNat = 2 * n.natAbs + 1 := by omega
  rw [e, gwF]
theorem gout {m : Mk} {x y n i j : Int} (hc : (((n * n < i * i + j * j ∨ x + i < 0) ∨ m.w ≤ x + i) ∨ y + j < 0) ∨ m.h ≤ y + j) : n * n < i * i + j * j ∨ insM m (x + i) (y + j) = false := by
  by_cases h : n * n < i * i + j * j
  · exact .inl h
  · right; exact insM_F.2 (by omega)
theorem gin {m : Mk} {x y n i j : Int} (hc : (((i * i + j * j ≤ n * n ∧ 0 ≤ x + i) ∧ x + i < m.w) ∧ 0 ≤ y + j) ∧ y + j < m.h) : i * i + j * j ≤ n * n ∧ insM m (x + i) (y + j) = true := ⟨hc.1.1.1.1, insM_T.2 (by omega)⟩
theorem gr_max {m : Mk} {x y n f i j : Int} (hc : 0 < n) (h : i * i + j * j ≤ n * n ∧ insM m (x + i) (y + j) = true) : max f (pickM m (x + i) (y + j)) = gst m x y n f j i := gst_max (by omega) h.1 h.2 (by rw [pickM, if_pos h.2])
theorem gr_min {m : Mk} {x y n i j : Int} (hc : n ≤ 0) (h : i * i + j * j ≤ n * n ∧ insM m (x + i) (y + j) = true) : min (gK m x y n j i) (pickM m (x + i) (y + j)) = gst m x y n (gK m x y n j i) j i := by
  by_cases hn : n = 0
  · subst hn
    rw [gK_n0, g0_st _ _ _ rfl]
    have a := sqnn i; have b := sqnn j
    have ei : i = 0 := by
      have : i * i = 0 := by omega
      rcases Int.mul_eq_zero.1 this with q | q <;> exact q
    have ej : j = 0 := by
      have : j * j = 0 := by omega
      rcases Int.mul_eq_zero.1 this with q | q <;> exact q
    subst ei ej
    rw [pickM, if_pos h.2]; simp
  · exact gst_min (by omega) h.1 h.2 (by rw [pickM, if_pos h.2])
theorem mul_le_nn {m : Mk} {y : Nat} (hY : y ≤ m.h.toNat) : y * m.w.toNat ≤ nn m.w m.h := by
  rw [nn, Nat.mul_comm m.w.toNat]; exact Nat.mul_le_mul_right _ hY
theorem mb_bd {m : Mk} {b : B4} (h : MbOk m b) (hz : 0 ≤ m.w ∧ m.w ≤ 256 ∧ 0 ≤ m.h ∧ m.h ≤ 256) : -1 ≤ b.x0 ∧ b.x0 ≤ 256 ∧ -1 ≤ b.x1 ∧ b.x1 ≤ 256 ∧ -1 ≤ b.y0 ∧ b.y0 ≤ 256 ∧ -1 ≤ b.y1 ∧ b.y1 ≤ 256 := by
  rcases h with e | e
  · rw [e]; simp only [mb0]; omega
  · omega
theorem pk_at {m : Mk} {x y : Nat} (hm : mchkE m = 0) (hy : (y : Int) < m.h) (hx : (x : Int) < m.w) : pickM m x y = m.v.getD (y * m.w.toNat + x) 0 := by
  have h := yxI (mchk0 hm).1 hy hx
  rw [pickM, if_pos (insM_T.2 (by omega)), h.1, Int.toNat_natCast]
end Go.Rect

set_option linter.unusedSimpArgs false
set_option linter.unusedVariables false
namespace Go.Rect
open Go.Eng
/-! ### Images -/
theorem iszE {m : Im} : okIm m = (isz m.w m.h && decide ((m.p.length : Int) = m.w * m.h)) := rfl
theorem isz_z {w h : Int} (h1 : isz w h = true) : Z0 w h := by
  simp only [isz, Bool.and_eq_true, decide_eq_true_eq] at h1; unfold Z0; omega
theorem isz_w {w h : Int} (h1 : isz w h = true) : IntKind.i64.wrap (w * h) = w * h := by rw [wN (isz_z h1), nnE (isz_z h1)]
theorem ik_1 {m : Im} (hc : isz m.w m.h = false ∨ ¬ (m.p.length : Int) = IntKind.i64.wrap (m.w * m.h)) : 15 = ichkE m := by
  have : okIm m = false := by
    rw [iszE]
    cases h : isz m.w m.h
    · rfl
    · rcases hc with hc | hc
      · rw [hc] at h; cases h
      · rw [isz_w h] at hc; simp [hc]
  rw [ichkE, this]; rfl
theorem ik_S {m : Im} (hc : isz m.w m.h = true ∧ (m.p.length : Int) = IntKind.i64.wrap (m.w * m.h)) : okIm m = true := by
  have := hc.2
  rw [isz_w hc.1] at this
  rw [iszE, hc.1]; simp [this]
theorem ik_3 {m : Im} {k : Nat} (h : okIm m = true) (hk : (k : Int) < (m.p.length : Int)) (hc : validP (m.p.getD k zP) = false) : 2 = ichkE m := by
  have : m.p.all validP = false := by
    rw [Bool.eq_false_iff]; intro g
    rw [List.all_eq_true] at g
    have := g _ (getD_mem (z := zP) hk)
    rw [hc] at this; cases this
  rw [ichkE, h, this]; rfl
theorem ik_4 {m : Im} {k : Nat} (h : okIm m = true) (hI : (m.p.take k).all validP = true) (hk : (m.p.length : Int) ≤ (k : Int)) : 0 = ichkE m := by
  rw [List.take_of_length_le (by omega)] at hI
  rw [ichkE, h, hI]; rfl
theorem ic5 {m : Im} {k : Nat} (hI : (m.p.take k).all validP = true) (hk : (k : Int) < (m.p.length : Int)) (hc : validP (m.p.getD k zP) = true) : (m.p.take (k + 1)).all validP = true := by
  rw [take_succ' (z := zP) hk, List.all_append, hI]; simp only [List.all_cons, hc, List.all_nil, Bool.and_self]
theorem ik_r1 {m : Im} (hc : ((m.w < 0 ∨ 256 < m.w) ∨ m.h < 0) ∨ 256 < m.h) : 15 = ichkE m := by
  have : okIm m = false := by
    rw [Bool.eq_false_iff]; intro g
    simp only [okIm, Bool.and_eq_true, decide_eq_true_eq] at g; omega
  rw [ichkE, this]; rfl
theorem ik_r2 {m : Im} (hc : ¬ ((m.w == 0) = (m.h == 0)) ∨ ¬ (m.p.length : Int) = m.w * m.h) : 15 = ichkE m := by
  have : okIm m = false := by
    rw [Bool.eq_false_iff]; intro g
    simp only [okIm, Bool.and_eq_true, decide_eq_true_eq, beq_iff_eq] at g
    rcases hc with hc | hc
    · exact hc g.1.2
    · exact hc g.2
  rw [ichkE, this]; rfl
theorem ik_rS {m : Im} (h1 : ((0 ≤ m.w ∧ m.w ≤ 256) ∧ 0 ≤ m.h) ∧ m.h ≤ 256) (h2 : (m.w == 0) = (m.h == 0) ∧ (m.p.length : Int) = m.w * m.h) : okIm m = true := by
  simp only [okIm, Bool.and_eq_true, decide_eq_true_eq, beq_iff_eq]
  exact ⟨⟨⟨⟨⟨h1.1.1.1, h1.1.1.2⟩, h1.1.2⟩, h1.2⟩, h2.1⟩, h2.2⟩
theorem ichk0 {m : Im} (h : ichkE m = 0) : Z0 m.w m.h ∧ (m.w = 0 ↔ m.h = 0) ∧ m.p.length = nn m.w m.h ∧ ∀ k, k < m.p.length → validP (m.p.getD k zP) = true := by
  unfold ichkE at h
  split at h
  · next g =>
    split at h
    · next a =>
      simp only [okIm, Bool.and_eq_true, decide_eq_true_eq, beq_iff_eq] at g
      have hz : Z0 m.w m.h := by unfold Z0; omega
      refine ⟨hz, ?_, ?_, fun k hk => ?_⟩
      · have := g.1.2
        constructor
        · intro e; rw [e] at this; simpa using this.symm
        · intro e; rw [e] at this; simpa using this
      · have := nnE hz; omega
      · rw [List.all_eq_true] at a
        exact a _ (getD_mem (z := zP) (k := k) (l := m.p) (by omega))
    · omega
  · omega
/-! ### Mixing pixels -/
theorem mu_b {p q : Int} (hp : 0 ≤ p ∧ p ≤ 65535) (hq : 0 ≤ q ∧ q ≤ 65535) : 0 ≤ p * q ∧ p * q ≤ 65535 * q := ⟨Int.mul_nonneg hp.1 hq.1, Int.mul_le_mul_of_nonneg_right hp.2 hq.1⟩
theorem mv_b {p v : Int} (hp : 0 ≤ p ∧ p ≤ 65535) (hv : 0 ≤ v) : 0 ≤ p * v ∧ p * v ≤ 65535 * v := ⟨Int.mul_nonneg hp.1 hv, Int.mul_le_mul_of_nonneg_right hp.2 hv⟩
theorem mx_0 {a b : Px} {t : Int} (hc : divI (unitI a.a * (65535 - unitI t) + unitI b.a * unitI t) 65535 = 0) : zP = mixP a b t := by
  simp only [mixP]; rw [if_pos hc]
theorem mx_1 {a b : Px} {t : Int} (hc : ¬ divI (unitI a.a * (65535 - unitI t) + unitI b.a * unitI t) 65535 = 0) :
    (⟨divI (unitI a.r * (unitI a.a * (65535 - unitI t)) + unitI b.r * (unitI b.a * unitI t)) (unitI a.a * (65535 - unitI t) + unitI b.a * unitI t), divI (unitI a.g * (unitI a.a * (65535 - unitI t)) + unitI b.g * (unitI b.a * unitI t)) (unitI a.a * (65535 - unitI t) + unitI b.a * unitI t), divI (unitI a.b * (unitI a.a * (65535 - unitI t)) + unitI b.b * (unitI b.a * unitI t)) (unitI a.a * (65535 - unitI t) + unitI b.a * unitI t), divI (unitI a.a * (65535 - unitI t) + unitI b.a * unitI t) 65535⟩ : Px) = mixP a b t := by
  simp only [mixP]; rw [if_neg hc]
theorem mx_d {d : Int} (hd : 0 ≤ d) (hc : ¬ divI d 65535 = 0) : 0 < d := by
  rcases Int.lt_or_eq_of_le hd with q | q
  · exact q
  · subst q; exact absurd rfl hc
/-! ### Fade and Mix -/
theorem filP_get0 (l : List Px) : l = tabP l.length (fun k => l.getD k zP) := by
  apply List.ext_getElem?
  intro i
  by_cases h : i < l.length
  · simp [tabP, List.getElem?_range h, h]
  · rw [List.getElem?_eq_none (by omega), List.getElem?_eq_none (by rw [tabP_len]; omega)]
theorem tabP_ext {n : Nat} {f g : Nat → Px} (h : ∀ k, k < n → f k = g k) : tabP n f = tabP n g := by
  apply List.map_congr_left; intro k hk; exact h k (by simpa using hk)
theorem filP_0 (l : List Px) (f : Nat → Px) : l = filP l.length f (fun k => l.getD k zP) 0 := by
  rw [filP]
  have : (fun i => if i < 0 then f i else l.getD i zP) = fun k => l.getD k zP := by funext i; rw [if_neg (by omega)]
  rw [this]; exact filP_get0 l
theorem tabP_set {n k : Nat} {f : Nat → Px} {v : Px} : (tabP n f).set k v = tabP n (fun j => if j = k then v else f j) := by
  apply List.ext_getElem?
  intro i
  rw [List.getElem?_set]
  by_cases h : i < n
  · by_cases e : k = i
    · subst e; simp [tabP, List.getElem?_range h, h]
    · have e2 : ¬ i = k := fun g => e g.symm
      simp [tabP, List.getElem?_range h, e, e2]
  · rw [List.getElem?_eq_none (l := tabP n fun j => if j = k then v else f j) (by rw [tabP_len]; omega)]
    by_cases e : k = i
    · subst e; simp [tabP_len, h]
    · rw [if_neg e, List.getElem?_eq_none (by rw [tabP_len]; omega)]
theorem filP_set {n k : Nat} {f g : Nat → Px} {v : Px} (h : v = f k) : (filP n f g k).set k v = filP n f g (k + 1) := by
  rw [filP, tabP_set, filP]
  apply tabP_ext
  intro i hi
  by_cases e : i = k
  · subst e; simp [h]
  · simp only [if_neg e]
    by_cases q : i < k
    · rw [if_pos q, if_pos (by omega)]
    · rw [if_neg q, if_neg (by omega)]
theorem filP_skip {n k : Nat} {f g : Nat → Px} (h : g k = f k) : filP n f g k = filP n f g (k + 1) := by
  rw [filP, filP]
  apply tabP_ext
  intro i hi
  by_cases e : i = k
  · subst e; rw [if_neg (by omega), if_pos (by omega), h]
  · by_cases q : i < k
    · rw [if_pos q, if_pos (by omega)]
    · rw [if_neg q, if_neg (by omega)]
theorem filP_all {n k : Nat} {f g : Nat → Px} (h : ∀ i, k ≤ i → i < n → g i = f i) : filP n f g k = tabP n f := by
  rw [filP]; apply tabP_ext; intro i hi
  by_cases q : i < k
  · rw [if_pos q]
  · rw [if_neg q, h i (by omega) hi]
theorem filP_setC {n k : Nat} {f g : Nat → Px} {v : Px} (h : v = f k) : ((filP n f g k).set k v).map pxC = (filP n f g (k + 1)).map pxC := by rw [filP_set h]
theorem tabP_succ (n : Nat) (f : Nat → Px) : tabP (n + 1) f = tabP n f ++ [f n] := by simp [tabP, List.range_succ]
theorem tabP_app {n : Nat} {f : Nat → Px} {v : Px} (h : v = f n) : (tabP n f).map pxC ++ [[.i v.r, .i v.g, .i v.b, .i v.a]] = (tabP (n + 1) f).map pxC := by rw [tabP_succ, h]; simp [pxC]
theorem fdx1 {i : Im} {m : Mk} (hc : ¬ ichkE i = 0) : fdR i m = ⟨0, 0, []⟩ ∧ fdE i m = ichkE i := by
  have e : fdE i m = ichkE i := by rw [fdE, if_pos hc]
  exact ⟨by rw [fdR, if_neg (by rw [e]; exact hc)]; rfl, e⟩
theorem fdx2 {i : Im} {m : Mk} (hi : ichkE i = 0) (hc : ¬ mchkE m = 0) : fdR i m = ⟨0, 0, []⟩ ∧ fdE i m = mchkE m := by
  have e : fdE i m = mchkE m := by rw [fdE, if_neg (by simp [hi]), if_pos hc]
  exact ⟨by rw [fdR, if_neg (by rw [e]; exact hc)]; rfl, e⟩
theorem fdx3 {i : Im} {m : Mk} (hi : ichkE i = 0) (hm : mchkE m = 0) (hc : fitB m i = false) : fdR i m = ⟨0, 0, []⟩ ∧ fdE i m = 15 := by
  have e : fdE i m = 15 := by rw [fdE, if_neg (by simp [hi]), if_neg (by simp [hm]), hc]; rfl
  exact ⟨by rw [fdR, if_neg (by rw [e]; decide)]; rfl, e⟩
theorem fdx4 {i : Im} {m : Mk} (hi : ichkE i = 0) (hm : mchkE m = 0) (hc : fitB m i = true) : fdR i m = ⟨i.w, i.h, tabP i.p.length (fdF i m)⟩ ∧ fdE i m = 0 := by
  have e : fdE i m = 0 := by rw [fdE, if_neg (by simp [hi]), if_neg (by simp [hm]), hc]; rfl
  exact ⟨by rw [fdR, if_pos e], e⟩
theorem fit_T {m : Mk} {i : Im} : fitB m i = true ↔ m.w = 0 ∨ m.w = i.w ∧ m.h = i.h := by simp [fitB]
theorem fit_len {m : Mk} {i : Im} (hi : ichkE i = 0) (hm : mchkE m = 0) (hf : fitB m i = true) : (m.w = 0 ∧ m.v.length = 0) ∨ (¬ m.w = 0 ∧ m.v.length = i.p.length) := by
  have a := (ichk0 hi).2.2.1; have b := (mchk0 hm).2.2.1
  by_cases h : m.w = 0
  · left; refine ⟨h, ?_⟩; rw [b, nn, h]; simp
  · right; refine ⟨h, ?_⟩
    rcases fit_T.1 hf with q | q
    · exact absurd q h
    · rw [a, b, q.1, q.2]
theorem fd_end {i : Im} {m : Mk} {k : Nat} (hi : ichkE i = 0) (hm : mchkE m = 0) (hf : fitB m i = true) (hk : (m.v.length : Int) ≤ (k : Int)) : filP i.p.length (fdF i m) (fun k => i.p.getD k zP) k = tabP i.p.length (fdF i m) := by
  apply filP_all
  intro j h1 h2
  rcases fit_len hi hm hf with q | q
  · rw [fdF, if_pos q.1]
  · omega
theorem fd_v {i : Im} {m : Mk} {k : Nat} (hk : (k : Int) < (m.v.length : Int)) (hi : ichkE i = 0) (hm : mchkE m = 0) (hf : fitB m i = true) : fadeP (i.p.getD k zP) (m.v.getD k 0) = fdF i m k := by
  rcases fit_len hi hm hf with q | q
  · omega
  · rw [fdF, if_neg q.1]
theorem fd_k {i : Im} {m : Mk} {k : Nat} (hk : (k : Int) < (m.v.length : Int)) (hi : ichkE i = 0) (hm : mchkE m = 0) (hf : fitB m i = true) : k < i.p.length := by
  rcases fit_len hi hm hf with q | q <;> omega
theorem fd_on {i : Im} {m : Mk} {k : Nat} (hc : ¬ m.w = 0) : fadeP (i.p.getD k zP) (m.v.getD k 0) = fdF i m k := by rw [fdF, if_neg hc]
theorem fd_off {i : Im} {m : Mk} {k : Nat} (hc : m.w = 0) : i.p.getD k zP = fdF i m k := by rw [fdF, if_pos hc]
theorem fd_k2 {i : Im} {m : Mk} {k : Nat} (hk : (k : Int) < (i.p.length : Int)) (hc : ¬ m.w = 0) (hi : ichkE i = 0) (hm : mchkE m = 0) (hf : fitB m i = true) : k < m.v.length := by
  rcases fit_len hi hm hf with q | q
  · exact absurd q.1 hc
  · omega
theorem fit_r {m : Mk} {i : Im} (h : (m.w != 0 && (m.w != i.w || m.h != i.h)) = false) : fitB m i = true := by
  rw [fit_T]
  by_cases h1 : m.w = 0
  · exact .inl h1
  · right
    simp only [bne, beq_eq_false_iff_ne.2 h1, Bool.not_false, Bool.true_and, Bool.or_eq_false_iff, Bool.not_eq_false', beq_iff_eq] at h
    exact h
theorem fit_rF {m : Mk} {i : Im} (h : ¬ m.w = 0 ∧ (¬ m.w = i.w ∨ ¬ m.h = i.h)) : fitB m i = false := by
  rw [Bool.eq_false_iff]; intro g
  rcases fit_T.1 g with q | q
  · exact h.1 q
  · rcases h.2 with r | r
    · exact r q.1
    · exact r q.2
theorem mxx1 {a b : Im} {m : Mk} (hc : ¬ ichkE a = 0) : mxR a b m = ⟨0, 0, []⟩ ∧ mxE a b m = ichkE a := by
  have e : mxE a b m = ichkE a := by rw [mxE, if_pos hc]
  exact ⟨by rw [mxR, if_neg (by rw [e]; exact hc)]; rfl, e⟩
theorem mxx2 {a b : Im} {m : Mk} (ha : ichkE a = 0) (hc : ¬ ichkE b = 0) : mxR a b m = ⟨0, 0, []⟩ ∧ mxE a b m = ichkE b := by
  have e : mxE a b m = ichkE b := by rw [mxE, if_neg (by simp [ha]), if_pos hc]
  exact ⟨by rw [mxR, if_neg (by rw [e]; exact hc)]; rfl, e⟩
theorem mxx3 {a b : Im} {m : Mk} (ha : ichkE a = 0) (hb : ichkE b = 0) (hc : ¬ mchkE m = 0) : mxR a b m = ⟨0, 0, []⟩ ∧ mxE a b m = mchkE m := by
  have e : mxE a b m = mchkE m := by rw [mxE, if_neg (by simp [ha]), if_neg (by simp [hb]), if_pos hc]
  exact ⟨by rw [mxR, if_neg (by rw [e]; exact hc)]; rfl, e⟩
theorem mxx4 {a b : Im} {m : Mk} (ha : ichkE a = 0) (hb : ichkE b = 0) (hm : mchkE m = 0) (hc : ¬ (a.w = b.w ∧ a.h = b.h ∧ fitB m a = true)) : mxR a b m = ⟨0, 0, []⟩ ∧ mxE a b m = 15 := by
  have e : mxE a b m = 15 := by rw [mxE, if_neg (by simp [ha]), if_neg (by simp [hb]), if_neg (by simp [hm]), if_neg hc]
  exact ⟨by rw [mxR, if_neg (by rw [e]; decide)]; rfl, e⟩
theorem mxx5 {a b : Im} {m : Mk} (ha : ichkE a = 0) (hb : ichkE b = 0) (hm : mchkE m = 0) (hc : a.w = b.w ∧ a.h = b.h ∧ fitB m a = true) : mxR a b m = ⟨b.w, b.h, tabP b.p.length (mxF a b m)⟩ ∧ mxE a b m = 0 := by
  have e : mxE a b m = 0 := by rw [mxE, if_neg (by simp [ha]), if_neg (by simp [hb]), if_neg (by simp [hm]), if_pos hc]
  exact ⟨by rw [mxR, if_pos e], e⟩
theorem mx_n {a b : Im} {m : Mk} (hc : (¬ a.w = b.w ∨ ¬ a.h = b.h) ∨ fitB m a = false) : ¬ (a.w = b.w ∧ a.h = b.h ∧ fitB m a = true) := by
  rintro ⟨h1, h2, h3⟩
  rcases hc with (q | q) | q
  · exact q h1
  · exact q h2
  · rw [h3] at q; cases q
theorem mx_len {a b : Im} (ha : ichkE a = 0) (hb : ichkE b = 0) (h : a.w = b.w ∧ a.h = b.h) : a.p.length = b.p.length := by rw [(ichk0 ha).2.2.1, (ichk0 hb).2.2.1, h.1, h.2]
theorem mx_end {a b : Im} {m : Mk} {k : Nat} (ha : ichkE a = 0) (hb : ichkE b = 0) (hm : mchkE m = 0) (hf : a.w = b.w ∧ a.h = b.h ∧ fitB m a = true) (hk : (m.v.length : Int) ≤ (k : Int)) : filP b.p.length (mxF a b m) (fun k => b.p.getD k zP) k = tabP b.p.length (mxF a b m) := by
  apply filP_all
  intro j h1 h2
  have e := mx_len ha hb ⟨hf.1, hf.2.1⟩
  rcases fit_len ha hm hf.2.2 with q | q
  · rw [mxF]; have : orU m j = 65535 := by rw [orU, if_pos q.1]
    rw [this]; simp
  · omega
theorem mx_or {a b : Im} {m : Mk} {k : Nat} (hk : (k : Int) < (m.v.length : Int)) (ha : ichkE a = 0) (hm : mchkE m = 0) (hf : a.w = b.w ∧ a.h = b.h ∧ fitB m a = true) : m.v.getD k 0 = orU m k ∧ k < a.p.length := by
  rcases fit_len ha hm hf.2.2 with q | q
  · omega
  · exact ⟨by rw [orU, if_neg q.1], by omega⟩
theorem mxF_0 {a b : Im} {m : Mk} {k : Nat} (h : orU m k = 0) : a.p.getD k zP = mxF a b m k := by rw [mxF, if_pos h]
theorem mxF_1 {a b : Im} {m : Mk} {k : Nat} (h : orU m k = 65535) : b.p.getD k zP = mxF a b m k := by rw [mxF, if_neg (by omega), if_pos h]
theorem mxF_2 {a b : Im} {m : Mk} {k : Nat} (h0 : ¬ orU m k = 0) (h : ¬ orU m k = 65535) : mixP (a.p.getD k zP) (b.p.getD k zP) (orU m k) = mxF a b m k := by rw [mxF, if_neg h0, if_neg h]
def mxG (a b : Im) (m : Mk) (k : Nat) : Px := if orU m k = 0 then a.p.getD k zP else mixP (a.p.getD k zP) (b.p.getD k zP) (orU m k)
theorem mxG_1 {a b : Im} {m : Mk} {k : Nat} (h : orU m k = 0) : a.p.getD k zP = mxG a b m k := by rw [mxG, if_pos h]
theorem mxG_0 {a b : Im} {m : Mk} {k : Nat} (h : ¬ orU m k = 0) : mixP (a.p.getD k zP) (b.p.getD k zP) (orU m k) = mxG a b m k := by rw [mxG, if_neg h]
theorem mxG_e {a b : Im} {m : Mk} {k : Nat} (h : ¬ orU m k = 65535) : mxG a b m k = mxF a b m k := by
  unfold mxG mxF; rw [if_neg h]
theorem mx_n2 {a b : Im} {m : Mk} (h : (a.w != b.w || a.h != b.h || (m.w != 0 && (m.w != a.w || m.h != a.h))) = false) : a.w = b.w ∧ a.h = b.h ∧ fitB m a = true := by
  simp only [Bool.or_eq_false_iff] at h
  refine ⟨by simpa using h.1.1, by simpa using h.1.2, fit_r h.2⟩
theorem mx_n3 {a b : Im} {m : Mk} (hc : (¬ a.w = b.w ∨ ¬ a.h = b.h) ∨ (¬ m.w = 0 ∧ (¬ m.w = a.w ∨ ¬ m.h = a.h))) : ¬ (a.w = b.w ∧ a.h = b.h ∧ fitB m a = true) := by
  apply mx_n
  rcases hc with q | q
  · exact .inl q
  · exact .inr (fit_rF q)
theorem px_ne {p q : Px} (hc : ¬ (p.r = q.r ∧ p.g = q.g ∧ p.b = q.b ∧ p.a = q.a)) : ¬ p = q := fun e => hc (by rw [e]; simp)
theorem px_neB {p q : Px} (hc : (p.r == q.r && (p.g == q.g && (p.b == q.b && p.a == q.a))) = false) : ¬ p = q := by
  rintro rfl; simp at hc
theorem px_eq {p q : Px} (hc : p.r = q.r ∧ p.g = q.g ∧ p.b = q.b ∧ p.a = q.a) : p = q := by cases p; cases q; simp only [Px.mk.injEq] at *; exact hc
theorem si_1 {a b : Im} (hc : (¬ a.w = b.w ∨ ¬ a.h = b.h) ∨ ¬ (a.p.length : Int) = (b.p.length : Int)) : false = sameI a b := by
  symm; simp only [sameI, decide_eq_false_iff_not]; rintro rfl; simp at hc
theorem si_2x {a b : Im} {k : Nat} (hc : ¬ a.p.getD k zP = b.p.getD k zP) : false = sameI a b := by
  symm; simp only [sameI, decide_eq_false_iff_not]; rintro rfl; simp at hc
theorem si_3 {a b : Im} {k : Nat} (h : (a.w = b.w ∧ a.h = b.h) ∧ (a.p.length : Int) = (b.p.length : Int)) (hI : ∀ j, j < k → a.p.getD j zP = b.p.getD j zP) (hc : (a.p.length : Int) ≤ (k : Int)) : true = sameI a b := by
  symm; simp only [sameI, decide_eq_true_eq]
  have e : a.p = b.p := by
    rw [filP_get0 a.p, filP_get0 b.p, show b.p.length = a.p.length by omega]
    apply tabP_ext; intro j hj; exact hI j (by omega)
  cases a; cases b; simp only [Im.mk.injEq] at *; exact ⟨h.1.1, h.1.2, e⟩
theorem si_4x {a b : Im} {k : Nat} (hI : ∀ j, j < k → a.p.getD j zP = b.p.getD j zP) (hc : a.p.getD k zP = b.p.getD k zP) : ∀ j, j < k + 1 → a.p.getD j zP = b.p.getD j zP := by
  intro j hj
  by_cases h : j = k
  · subst h; exact hc
  · exact hI j (by omega)
theorem cpy1 (l : List Px) (f : Nat → Px) : l.map pxC ++ ((List.replicate l.length zP).map pxC).drop l.length = (filP l.length f (fun k => l.getD k zP) 0).map pxC := by
  rw [← filP_0, List.drop_of_length_le (by simp), List.append_nil]
end Go.Rect

