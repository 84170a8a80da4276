import Derived.Test.YtdillkdhpalgcaaLG
import Derived.Laws.Bits64b
import Derived.Lib.Mul64
set_option linter.unusedSimpArgs false
set_option linter.unusedVariables false
set_option linter.unusedSimpArgs false
set_option linter.unusedVariables false
namespace Go.Rect
open Go.Eng
/-! ### Products of 128 bits -/
theorem mk32 (a : Nat) (ha : a < 18446744073709551616) : bits .and .u64 (a : Int) 4294967295 = ((a % 4294967296 : Nat) : Int) := by
  have h := bits_and_u64_nat a 4294967295 ha (by omega)
  have e : a &&& 4294967295 = a % 4294967296 := Nat.and_two_pow_sub_one_eq_mod a 32
  rw [e] at h
  exact h
theorem sh32 (a : Nat) : (a : Int) / 4294967296 = ((a / 4294967296 : Nat) : Int) := by omega
theorem nMul (a b : Nat) : (a : Int) * (b : Int) = ((a * b : Nat) : Int) := (Int.natCast_mul a b).symm
theorem nAdd (a b : Nat) : (a : Int) + (b : Int) = ((a + b : Nat) : Int) := (Int.natCast_add a b).symm
theorem wU (a : Nat) (ha : a < 18446744073709551616) : IntKind.u64.wrap (a : Int) = (a : Int) := by rw [IntKind.wrap_u64]; omega
theorem wUm (a : Nat) : IntKind.u64.wrap (a : Int) = ((a % 18446744073709551616 : Nat) : Int) := by rw [IntKind.wrap_u64]; omega
theorem ipow32 : (2 : Int) ^ Int.toNat 32 = 4294967296 := rfl
theorem vI {m n : Int} (h : m = n) : Value.int IntKind.u64 m = Value.int IntKind.u64 n := by rw [h]
/-! ### Roots, bit by bit -/
def btN (j : Nat) : Int := if j < 64 then ((2 ^ (63 - j) : Nat) : Int) else 0
theorem sq_le (N j : Nat) : ∀ j, j ≤ 64 → ∃ a, sqN N j = 2 ^ (64 - j) * a ∧ sqN N j + 2 ^ (64 - j) ≤ 2 ^ 64
  | 0, _ => ⟨0, by simp [sqN], by simp [sqN]⟩
  | j + 1, hj => by
    obtain ⟨a, h1, h2⟩ := sq_le N 0 j (by omega)
    have e : 2 ^ (64 - j) = 2 * 2 ^ (64 - (j + 1)) := by rw [← Nat.pow_succ']; congr 1; omega
    have e2 : 63 - j = 64 - (j + 1) := by omega
    simp only [sqN]
    rw [e2]
    rw [e] at h1 h2
    split
    · exact ⟨2 * a + 1, by rw [h1, Nat.mul_add, Nat.mul_one, ← Nat.mul_assoc, Nat.mul_comm _ 2], by omega⟩
    · exact ⟨2 * a, by rw [h1, ← Nat.mul_assoc, Nat.mul_comm _ 2], by omega⟩
theorem sq_lt (N : Nat) {j : Nat} (hj : j ≤ 64) : sqN N j < 18446744073709551616 := by
  obtain ⟨a, h1, h2⟩ := sq_le N 0 j hj
  have : 0 < 2 ^ (64 - j) := Nat.two_pow_pos _
  omega
theorem sq_or (N : Nat) {j : Nat} (hj : j < 64) : bits .or .u64 (sqN N j : Int) (btN j) = ((sqN N j + 2 ^ (63 - j) : Nat) : Int) ∧ sqN N j + 2 ^ (63 - j) < 18446744073709551616 := by
  obtain ⟨a, h1, h2⟩ := sq_le N 0 j (by omega)
  have e : 2 ^ (64 - j) = 2 * 2 ^ (63 - j) := by rw [← Nat.pow_succ']; congr 1; omega
  have hp : 0 < 2 ^ (63 - j) := Nat.two_pow_pos _
  have hb : 2 ^ (63 - j) < 18446744073709551616 := by omega
  refine ⟨?_, by omega⟩
  rw [btN, if_pos hj, bits_or_u64_nat _ _ (sq_lt N (by omega)) hb, h1, ← Nat.two_pow_add_eq_or_of_lt (by omega)]
theorem bt_sh {j : Nat} (hj : j < 64) : btN j / 2 = btN (j + 1) := by
  unfold btN
  rw [if_pos hj]
  split
  · have e : 2 ^ (63 - j) = 2 * 2 ^ (63 - (j + 1)) := by rw [← Nat.pow_succ']; congr 1; omega
    rw [e]; omega
  · have : j = 63 := by omega
    subst this; decide
theorem bt_ne {j : Nat} (hj : j ≤ 64) : btN j = 0 ↔ j = 64 := by
  unfold btN
  split
  · have : 0 < 2 ^ (63 - j) := Nat.two_pow_pos _
    omega
  · omega
theorem hyp_bd (x y : Int) (h1 : -9223372036854775808 ≤ x) (h2 : x ≤ 9223372036854775808) (h3 : -9223372036854775808 ≤ y) (h4 : y ≤ 9223372036854775808) :
    x.natAbs * x.natAbs ≤ 85070591730234615865843651857942052864 ∧ y.natAbs * y.natAbs ≤ 85070591730234615865843651857942052864 := by
  have a1 : x.natAbs ≤ 9223372036854775808 := by omega
  have a2 : y.natAbs ≤ 9223372036854775808 := by omega
  exact ⟨Nat.mul_le_mul a1 a1, Nat.mul_le_mul a2 a2⟩
/-! ### Sums on a way -/
theorem motK_succ (v : Vw) (x y : Int) (k : Nat) : motK v x y (k + 1) = addS (motK v x y k) (motP v x y k) 1 := by
  simp only [motK, List.range_succ, List.foldl_append, List.foldl_cons, List.foldl_nil]
theorem motK_w (v : Vw) (x y : Int) : ∀ k, (motK v x y k).w = k
  | 0 => rfl
  | k + 1 => by rw [motK_succ, addS, motK_w v x y k]; simp
theorem motN_0 (v : Vw) : 0 ≤ motN v := by unfold motN abs2; omega
def MtH (v : Vw) (x y : Int) : Prop := v.ps.length = 2 ∧ (-16 ≤ v.ps.getD 0 0 ∧ v.ps.getD 0 0 ≤ 16) ∧ (-16 ≤ v.ps.getD 1 0 ∧ v.ps.getD 1 0 ≤ 16) ∧ (-16777216 ≤ x ∧ x ≤ 16777216 ∧ -16777216 ≤ y ∧ y ≤ 16777216) ∧
  ∀ i j : Int, -motN v ≤ i → i ≤ motN v → -motN v ≤ j → j ≤ motN v → VIn v (x + i) (y + j)
theorem div_way {k d n : Int} (hk : 0 ≤ k ∧ k ≤ n) (hd : -n ≤ d ∧ d ≤ n) : -n ≤ divI (k * d) n ∧ divI (k * d) n ≤ n := by
  unfold divI
  rcases Int.lt_or_eq_of_le (show 0 ≤ n by omega) with h | h
  · have h1 : k * d ≤ n * n := Int.le_trans (Int.mul_le_mul_of_nonneg_left hd.2 hk.1) (Int.mul_le_mul_of_nonneg_right hk.2 (by omega))
    have h2 : -(n * n) ≤ k * d := by
      have a1 : k * -n ≤ k * d := Int.mul_le_mul_of_nonneg_left hd.1 hk.1
      have a2 : k * n ≤ n * n := Int.mul_le_mul_of_nonneg_right hk.2 (by omega)
      rw [Int.mul_neg] at a1; omega
    constructor
    · rw [Int.le_ediv_iff_mul_le (by omega)]
      have : -n * (2 * n) = -(2 * (n * n)) := by rw [Int.neg_mul, Int.mul_left_comm]
      omega
    · apply Int.le_of_lt_add_one
      rw [Int.ediv_lt_iff_lt_mul (by omega)]
      have : (n + 1) * (2 * n) = 2 * (n * n) + 2 * n := by rw [Int.add_mul, Int.mul_left_comm]; omega
      omega
  · subst h; simp
theorem mt_in {v : Vw} {x y : Int} (h : MtH v x y) {k : Nat} (hk : (k : Int) ≤ motN v) : VIn v (x + divI ((k : Int) * v.ps.getD 0 0) (motN v)) (y + divI ((k : Int) * v.ps.getD 1 0) (motN v)) := by
  have e1 : -motN v ≤ v.ps.getD 0 0 ∧ v.ps.getD 0 0 ≤ motN v := by unfold motN abs2; omega
  have e2 : -motN v ≤ v.ps.getD 1 0 ∧ v.ps.getD 1 0 ≤ motN v := by unfold motN abs2; omega
  have d1 := div_way (k := (k : Int)) ⟨by omega, hk⟩ e1
  have d2 := div_way (k := (k : Int)) ⟨by omega, hk⟩ e2
  exact h.2.2.2.2 _ _ d1.1 d1.2 d2.1 d2.2
theorem divI_0 {n : Int} (h : 0 ≤ n) : divI 0 n = 0 := by
  unfold divI
  rcases Int.lt_or_eq_of_le h with h | h
  · rw [Int.ediv_eq_zero_of_lt] <;> omega
  · subst h; rfl
theorem mt_0 (v : Vw) (x y : Int) : motP v x y 0 = pixF v x y := by simp [motP, divI_0 (motN_0 v)]
theorem mt_1 (v : Vw) (x y : Int) : addS zS (pixF v x y) 1 = motK v x y 1 := by rw [motK_succ, mt_0]; rfl
theorem mt_ok {v : Vw} {x y : Int} (h : MtH v x y) : ∀ k : Nat, (k : Int) ≤ motN v + 1 → SmOk (motK v x y k)
  | 0, _ => zS_ok
  | k + 1, hk => by
    rw [motK_succ]
    have hn : motN v ≤ 16 := by have := h.2.1; have := h.2.2.1; unfold motN abs2; omega
    exact (add_ok (mt_ok h k (by omega)) (pix_ok (mt_in h (by omega))) (by omega) (by rw [motK_w]; omega)).1
/-! ### Sums over a block -/
theorem pg_succ (v : Vw) (x0 y0 : Int) (W m k : Nat) : pgK v x0 y0 W m (k + 1) = addS (pgK v x0 y0 W m k) (pixF v (x0 + k) (y0 + m)) 1 := by
  simp only [pgK, pgRow, List.range_succ, List.foldl_append, List.foldl_cons, List.foldl_nil]
theorem pg_over (v : Vw) (x0 y0 : Int) (W m : Nat) : pgK v x0 y0 W m W = pgK v x0 y0 W (m + 1) 0 := by
  simp only [pgK, List.range_succ, List.foldl_append, List.foldl_cons, List.foldl_nil]
  rw [pgRow, pgRow.eq_def v x0 (y0 + ((m + 1 : Nat) : Int))]; simp
theorem pg_wk (v : Vw) (x0 y0 : Int) (W m : Nat) : ∀ k : Nat, (pgK v x0 y0 W m k).w = (pgK v x0 y0 W m 0).w + (k : Int)
  | 0 => by simp
  | k + 1 => by rw [pg_succ, addS, pg_wk v x0 y0 W m k]; simp only; omega
theorem pg_w (v : Vw) (x0 y0 : Int) (W : Nat) : ∀ m k : Nat, (pgK v x0 y0 W m k).w = ((m * W + k : Nat) : Int)
  | 0, k => by
    rw [pg_wk, Nat.zero_mul, Nat.zero_add]
    have : (pgK v x0 y0 W 0 0).w = 0 := rfl
    omega
  | m + 1, k => by rw [pg_wk, ← pg_over, pg_w v x0 y0 W m W, Nat.add_mul]; omega
def PgH (v : Vw) (x y : Int) : Prop := v.ps.length = 1 ∧ (1 ≤ v.ps.getD 0 0 ∧ v.ps.getD 0 0 ≤ 16) ∧ BdOk v.bd ∧ (v.bd.x ≤ x ∧ x < v.bd.x + v.bd.w) ∧ (v.bd.y ≤ y ∧ y < v.bd.y + v.bd.h) ∧
  ∀ i j : Int, -(v.ps.getD 0 0 - 1) ≤ i → i ≤ v.ps.getD 0 0 - 1 → -(v.ps.getD 0 0 - 1) ≤ j → j ≤ v.ps.getD 0 0 - 1 → VIn v (x + i) (y + j)
theorem blk_bd {b z x : Int} (hz : 1 ≤ z) : blk b z x ≤ x ∧ x < blk b z x + z := by
  unfold blk
  have h1 := Int.emod_nonneg (x - b) (show z ≠ 0 by omega)
  have h2 := Int.emod_lt_of_pos (x - b) (show 0 < z by omega)
  have h3 := Int.mul_ediv_add_emod (x - b) z
  rw [Int.mul_comm] at h3
  omega
theorem blk_ge {b z x : Int} (hz : 1 ≤ z) (hx : b ≤ x) : b ≤ blk b z x := by
  unfold blk
  have := Int.mul_nonneg (Int.ediv_nonneg (show 0 ≤ x - b by omega) (show 0 ≤ z by omega)) (show 0 ≤ z by omega)
  omega
theorem blk_e {b z x : Int} (hz : 1 ≤ z) (hx : b ≤ x) : x - (x - b).tmod z = blk b z x := by
  rw [Int.tmod_eq_emod_of_nonneg (by omega)]
  unfold blk
  have h3 := Int.mul_ediv_add_emod (x - b) z
  rw [Int.mul_comm] at h3
  omega
section
variable {v : Vw} {x y : Int}
theorem pg_W (h : PgH v x y) : (pgW v x : Int) = min (pgX v x + v.ps.getD 0 0) (v.bd.x + v.bd.w) - pgX v x ∧ 1 ≤ (pgW v x : Int) ∧ (pgW v x : Int) ≤ 16 := by
  have hb := blk_bd (b := v.bd.x) (x := x) h.2.1.1
  have := h.2.2.2.1; have := h.2.1
  unfold pgW pgX; omega
theorem pg_H (h : PgH v x y) : (pgH v y : Int) = min (pgY v y + v.ps.getD 0 0) (v.bd.y + v.bd.h) - pgY v y ∧ 1 ≤ (pgH v y : Int) ∧ (pgH v y : Int) ≤ 16 := by
  have hb := blk_bd (b := v.bd.y) (x := y) h.2.1.1
  have := h.2.2.2.2.1; have := h.2.1
  unfold pgH pgY; omega
theorem pg_in (h : PgH v x y) {m k : Nat} (hm : m < pgH v y) (hk : k < pgW v x) : VIn v (pgX v x + k) (pgY v y + m) := by
  have hx := blk_bd (b := v.bd.x) (x := x) h.2.1.1
  have hy := blk_bd (b := v.bd.y) (x := y) h.2.1.1
  have hW := pg_W h; have hH := pg_H h
  have := h.2.2.2.2.2 (pgX v x + k - x) (pgY v y + m - y) (by unfold pgX at *; omega) (by unfold pgX at *; omega) (by unfold pgY at *; omega) (by unfold pgY at *; omega)
  rwa [show x + (pgX v x + (k : Int) - x) = pgX v x + k by omega, show y + (pgY v y + (m : Int) - y) = pgY v y + m by omega] at this
theorem pg_wb (h : PgH v x y) {m k : Nat} (hm : m ≤ pgH v y) (hk : k ≤ pgW v x) : (pgK v (pgX v x) (pgY v y) (pgW v x) m k).w ≤ 1024 := by
  rw [pg_w]
  have hW := pg_W h; have hH := pg_H h
  have : m * pgW v x ≤ 16 * 16 := Nat.mul_le_mul (by omega) (by omega)
  omega
theorem pg_row (h : PgH v x y) {m : Nat} (hm : m < pgH v y) (h0 : SmOk (pgK v (pgX v x) (pgY v y) (pgW v x) m 0)) : ∀ k, k ≤ pgW v x → SmOk (pgK v (pgX v x) (pgY v y) (pgW v x) m k)
  | 0, _ => h0
  | k + 1, hk => by
    rw [pg_succ]
    have := pg_wb h (m := m) (k := k) (by omega) (by omega)
    exact (add_ok (pg_row h hm h0 k (by omega)) (pix_ok (pg_in h hm (by omega))) (by omega) (by omega)).1
theorem pg_ok0 (h : PgH v x y) : ∀ m, m ≤ pgH v y → SmOk (pgK v (pgX v x) (pgY v y) (pgW v x) m 0)
  | 0, _ => zS_ok
  | m + 1, hm => by
    rw [← pg_over]
    exact pg_row h (by omega) (pg_ok0 h m (by omega)) _ (Nat.le_refl _)
theorem pg_ok (h : PgH v x y) {m k : Nat} (hm : m < pgH v y) (hk : k ≤ pgW v x) : SmOk (pgK v (pgX v x) (pgY v y) (pgW v x) m k) := pg_row h hm (pg_ok0 h m (by omega)) k hk
end
/-! ### Lumas -/
theorem lum_bd (p : Px) : 0 ≤ lumI p ∧ lumI p ≤ 65535 := by
  have := unit_bd p.r; have := unit_bd p.g; have := unit_bd p.b
  unfold lumI divI
  simp only [limP]
  omega
theorem lumF_bd (v : Vw) (x y : Int) : 0 ≤ lumF v x y ∧ lumF v x y ≤ 65535 := lum_bd _
def EdH (v : Vw) (x y : Int) : Prop := (-16777216 ≤ x ∧ x ≤ 16777216 ∧ -16777216 ≤ y ∧ y ≤ 16777216) ∧ ∀ i j : Int, -1 ≤ i → i ≤ 1 → -1 ≤ j → j ≤ 1 → VIn v (x + i) (y + j)
theorem ed_in {v : Vw} {x y : Int} (h : EdH v x y) : VIn v (x + 1) (y - 1) ∧ VIn v (x + 1) y ∧ VIn v (x + 1) (y + 1) ∧ VIn v (x - 1) (y - 1) ∧ VIn v (x - 1) y ∧ VIn v (x - 1) (y + 1) ∧ VIn v x (y + 1) ∧ VIn v x (y - 1) ∧ VIn v x y := by
  have a := fun i j h1 h2 h3 h4 => h.2 i j h1 h2 h3 h4
  refine ⟨?_, ?_, ?_, ?_, ?_, ?_, ?_, ?_, ?_⟩
  · simpa only [Int.sub_eq_add_neg] using a 1 (-1) (by omega) (by omega) (by omega) (by omega)
  · simpa only [Int.add_zero] using a 1 0 (by omega) (by omega) (by omega) (by omega)
  · exact a 1 1 (by omega) (by omega) (by omega) (by omega)
  · simpa only [Int.sub_eq_add_neg] using a (-1) (-1) (by omega) (by omega) (by omega) (by omega)
  · simpa only [Int.sub_eq_add_neg, Int.add_zero] using a (-1) 0 (by omega) (by omega) (by omega) (by omega)
  · simpa only [Int.sub_eq_add_neg] using a (-1) 1 (by omega) (by omega) (by omega) (by omega)
  · simpa only [Int.add_zero] using a 0 1 (by omega) (by omega) (by omega) (by omega)
  · simpa only [Int.sub_eq_add_neg, Int.add_zero] using a 0 (-1) (by omega) (by omega) (by omega) (by omega)
  · simpa only [Int.add_zero] using a 0 0 (by omega) (by omega) (by omega) (by omega)
/-! ### What a filtered pixel needs -/
theorem radK1 {k : Int} {ps : List Int} (h : k = 1 ∨ k = 2 ∨ k = 3) : radK k ps = ps.getD 0 0 := by rw [radK, if_neg (by omega)]
theorem radK0 {k : Int} {ps : List Int} (h : k = 5 ∨ k = 6 ∨ k = 9 ∨ k = 10) : radK k ps = 0 := by rw [radK, if_pos h]
theorem wtD1 {k r : Int} (h : k = 1 ∨ k = 2 ∨ k = 3) : wtD k r = .sl 1 ((wtL k r).map iC) := by rw [wtD, if_neg (by omega)]
theorem wtD0 {k r : Int} (h : k = 5 ∨ k = 6 ∨ k = 9 ∨ k = 10) : wtD k r = .v (.slice none 0 0) := by rw [wtD, if_pos h]
def NwH (v : Vw) (x y : Int) : Prop := (v.kind = 5 ∨ v.kind = 6 ∨ v.kind = 9 ∨ v.kind = 10) ∧ (v.kind = 5 ∨ v.kind = 6 → EdH v x y) ∧ (v.kind = 9 → MtH v x y) ∧ (v.kind = 10 → PgH v x y)
theorem ff3 {v : Vw} {wt : List Int} {x y : Int} (hk : v.kind = 3) : sharpF v wt x y = filF v wt x y := by rw [filF, if_neg (by omega), if_neg (by omega), if_pos hk]
theorem ff5 {v : Vw} {wt : List Int} {x y : Int} (hk : v.kind = 5) : edgeF v x y = filF v wt x y := by rw [filF, if_neg (by omega), if_neg (by omega), if_neg (by omega), if_pos hk]
theorem ff6 {v : Vw} {wt : List Int} {x y : Int} (hk : v.kind = 6) : embF v x y = filF v wt x y := by rw [filF, if_neg (by omega), if_neg (by omega), if_neg (by omega), if_neg (by omega), if_pos hk]
theorem ff9 {v : Vw} {wt : List Int} {x y : Int} (hk : v.kind = 9) : motF v x y = filF v wt x y := by rw [filF, if_neg (by omega), if_neg (by omega), if_neg (by omega), if_neg (by omega), if_neg (by omega), if_pos hk]
theorem ff10 {v : Vw} {wt : List Int} {x y : Int} (hk : v.kind = 10) : pxlF v x y = filF v wt x y := by rw [filF, if_neg (by omega), if_neg (by omega), if_neg (by omega), if_neg (by omega), if_neg (by omega), if_neg (by omega)]
theorem sm_a {v : Vw} {wt : List Int} {x y : Int} (h : SqH v wt x y) : SmOk (sqS v wt x y) := sqm_ok h _ (Nat.le_refl _)
theorem aw_bd {c s a : Int} (hc : 0 ≤ c ∧ c ≤ 65535) (ha : 0 ≤ a) (hs : 0 ≤ s ∧ s ≤ 65535 * a) : 0 ≤ divI s a ∧ divI s a ≤ 65535 := by
  unfold divI
  rcases Int.lt_or_eq_of_le ha with h | h
  · refine ⟨Int.ediv_nonneg (by omega) (by omega), ?_⟩
    apply Int.le_of_lt_add_one
    rw [Int.ediv_lt_iff_lt_mul (by omega)]
    omega
  · subst h; simp
theorem aw_mul {m c d : Int} (hm : 0 ≤ m ∧ m ≤ 262140) (hc : 0 ≤ c ∧ c ≤ 65535) (hd : 0 ≤ d ∧ d ≤ 65535) : -17179344900 ≤ m * (c - d) ∧ m * (c - d) ≤ 17179344900 := by
  have h1 : m * (c - d) ≤ m * 65535 := Int.mul_le_mul_of_nonneg_left (by omega) hm.1
  have h2 : m * -65535 ≤ m * (c - d) := Int.mul_le_mul_of_nonneg_left (by omega) hm.1
  omega
theorem dv_bd {a : Int} (h : -17179344900 ≤ a ∧ a ≤ 17179344900) : -262140 ≤ divI a 65535 ∧ divI a 65535 ≤ 262140 := by unfold divI; omega
theorem dv0 {a b : Int} (h : b = 0) : 0 = divI a b := by subst h; simp [divI]
theorem dw1z {a b : Int} (h1 : -2305843009213693952 ≤ a) (h2 : a ≤ 2305843009213693952) (h : 0 ≤ b) (h4 : b ≤ 70368744177664)
    (hc : 0 < b ∧ IntKind.i64.wrap (b - IntKind.i64.wrap (a - IntKind.i64.wrap (b * floorI a b))) ≤ IntKind.i64.wrap (a - IntKind.i64.wrap (b * floorI a b)) ∨ b < 0 ∧ IntKind.i64.wrap (a - IntKind.i64.wrap (b * floorI a b)) ≤ IntKind.i64.wrap (b - IntKind.i64.wrap (a - IntKind.i64.wrap (b * floorI a b)))) :
    IntKind.i64.wrap (floorI a b + 1) = divI a b := dw1 h1 h2 (by omega) h4 hc
theorem dw2z {a b : Int} (h1 : -2305843009213693952 ≤ a) (h2 : a ≤ 2305843009213693952) (h : 0 ≤ b) (h4 : b ≤ 70368744177664) (h0 : ¬ b = 0)
    (hc : (decide (0 < b) && decide (IntKind.i64.wrap (b - IntKind.i64.wrap (a - IntKind.i64.wrap (b * floorI a b))) ≤ IntKind.i64.wrap (a - IntKind.i64.wrap (b * floorI a b)))) = false ∧ (decide (b < 0) && decide (IntKind.i64.wrap (a - IntKind.i64.wrap (b * floorI a b)) ≤ IntKind.i64.wrap (b - IntKind.i64.wrap (a - IntKind.i64.wrap (b * floorI a b))))) = false) :
    floorI a b = divI a b := dw2 h1 h2 (by omega) h4 hc
theorem sq_ctr {v : Vw} {wt : List Int} {x y : Int} (h : SqH v wt x y) : VIn v x y := by
  have := h.2.2.2 0 0 (by have := h.1; omega) (by have := h.1; omega) (by have := h.1; omega) (by have := h.1; omega)
  simpa only [Int.add_zero] using this
theorem mt_c {v : Vw} {x y : Int} (h : MtH v x y) : VIn v x y := by
  have n0 := motN_0 v
  have := h.2.2.2.2 0 0 (by omega) (by omega) (by omega) (by omega)
  simpa only [Int.add_zero] using this
theorem sh1 {v : Vw} {wt : List Int} {x y : Int} (hc : (pixF v x y).a = 0) : zP = sharpF v wt x y := by rw [sharpF, sharpP, if_pos hc]
theorem sh2 {v : Vw} {wt : List Int} {x y : Int} (hc : ¬ (pixF v x y).a = 0) : (⟨awayI (v.ps.getD 1 0) (pixF v x y).r (sqS v wt x y).r (sqS v wt x y).a, awayI (v.ps.getD 1 0) (pixF v x y).g (sqS v wt x y).g (sqS v wt x y).a, awayI (v.ps.getD 1 0) (pixF v x y).b (sqS v wt x y).b (sqS v wt x y).a, (pixF v x y).a⟩ : Px) = sharpF v wt x y := by rw [sharpF, sharpP, if_neg hc]
theorem absU_2 (a : Int) : absU a = (a.natAbs : Int) := by unfold absU; split <;> omega
theorem ab1z {a : Int} (h1 : -9223372036854775808 ≤ a) (hc : a < 0) : Value.int IntKind.u64 (IntKind.u64.wrap (0 - IntKind.u64.wrap a)) = Value.int IntKind.u64 (absU a) := by
  congr 1; rw [absU, if_pos hc]; simp only [IntKind.wrap_u64]; omega

theorem hy_hi {x y : Int} (h1 : x.natAbs * x.natAbs ≤ 85070591730234615865843651857942052864) (h2 : y.natAbs * y.natAbs ≤ 85070591730234615865843651857942052864) :
    (((x.natAbs * x.natAbs : Nat) : Int) / 18446744073709551616 + ((y.natAbs * y.natAbs : Nat) : Int) / 18446744073709551616 + (((x.natAbs * x.natAbs : Nat) : Int) % 18446744073709551616 + ((y.natAbs * y.natAbs : Nat) : Int) % 18446744073709551616 + 0) / 18446744073709551616) % 18446744073709551616 = (hypN x y : Int) / 18446744073709551616 := by
  unfold hypN; omega
theorem hy_lo {x y : Int} : (((x.natAbs * x.natAbs : Nat) : Int) % 18446744073709551616 + ((y.natAbs * y.natAbs : Nat) : Int) % 18446744073709551616 + 0) % 18446744073709551616 = (hypN x y : Int) % 18446744073709551616 := by
  unfold hypN; omega
theorem sq_T {N j : Nat} (h : (sqN N j + 2 ^ (63 - j)) * (sqN N j + 2 ^ (63 - j)) ≤ N) : ((sqN N j + 2 ^ (63 - j) : Nat) : Int) = (sqN N (j + 1) : Int) := by rw [sqN, if_pos h]
theorem sq_F {N j : Nat} (h : ¬ (sqN N j + 2 ^ (63 - j)) * (sqN N j + 2 ^ (63 - j)) ≤ N) : (sqN N j : Int) = (sqN N (j + 1) : Int) := by rw [sqN, if_neg h]
theorem hy1 {x y : Int} (hc : 9223372036854775807 < (sqN (hypN x y) 64 : Int)) : 9223372036854775807 = hypI x y := by rw [hypI, if_pos hc]
theorem hy2 {x y : Int} (hc : (sqN (hypN x y) 64 : Int) ≤ 9223372036854775807) : IntKind.i64.wrap (sqN (hypN x y) 64 : Int) = hypI x y := by rw [hypI, if_neg (by omega), w64 (by omega) (by omega)]
theorem hyF {A N : Nat} (hc : (N : Int) / 18446744073709551616 ≤ (A : Int) / 18446744073709551616 ∧ ((A : Int) / 18446744073709551616 == (N : Int) / 18446744073709551616 && decide ((A : Int) % 18446744073709551616 ≤ (N : Int) % 18446744073709551616)) = false) : ¬ A ≤ N := by
  obtain ⟨h1, h2⟩ := hc
  simp only [Bool.and_eq_false_iff, beq_eq_false_iff_ne, ne_eq, decide_eq_false_iff_not] at h2
  omega
theorem way_bd {k : Nat} {d : Int} (hk : k ≤ 16) (hd : -16 ≤ d ∧ d ≤ 16) : -256 ≤ (k : Int) * d ∧ (k : Int) * d ≤ 256 := by
  have h1 : (k : Int) * d ≤ (k : Int) * 16 := Int.mul_le_mul_of_nonneg_left hd.2 (by omega)
  have h2 : (k : Int) * -16 ≤ (k : Int) * d := Int.mul_le_mul_of_nonneg_left hd.1 (by omega)
  omega
theorem ipow1 : (2 : Int) ^ Int.toNat 1 = 2 := rfl

theorem apn {i : Im} {o : Pt} {bd out : Rc} {k : Int} {ps : List Int} {x y : Int} (hk : k = 5 ∨ k = 6 ∨ k = 9 ∨ k = 10) : appF (vwOf i o bd k ps) (wtL k (ps.getD 0 0)) out x y = clrP (filF ⟨i, o, bd, k, ps, 0⟩ [] (out.x + x) (out.y + y)) := by
  rw [appF]
  refine congrArg clrP ?_
  have e : ∀ x y, pixF (vwOf i o bd k ps) x y = pixF ⟨i, o, bd, k, ps, 0⟩ x y := fun _ _ => rfl
  rcases hk with h | h | h | h
  · refine (ff5 (v := vwOf i o bd k ps) h).symm.trans (Eq.trans ?_ (ff5 (v := ⟨i, o, bd, k, ps, 0⟩) h)); simp only [edgeF, edgX, edgY, lumF, e]
  · refine (ff6 (v := vwOf i o bd k ps) h).symm.trans (Eq.trans ?_ (ff6 (v := ⟨i, o, bd, k, ps, 0⟩) h)); simp only [embF, lumF, e]
  · refine (ff9 (v := vwOf i o bd k ps) h).symm.trans (Eq.trans ?_ (ff9 (v := ⟨i, o, bd, k, ps, 0⟩) h)); rfl
  · refine (ff10 (v := vwOf i o bd k ps) h).symm.trans (Eq.trans ?_ (ff10 (v := ⟨i, o, bd, k, ps, 0⟩) h)); rfl
theorem reach_n {k : Int} {ps : List Int} (h : fchkE k ps = 0) (hk : k = 5 ∨ k = 6 ∨ k = 9 ∨ k = 10) : 0 ≤ reachI k ps ∧ reachI k ps ≤ 16 := by
  have g := fk_rg h
  have g9 := g.2.1
  have g10 := g.2.2.1
  rw [reachI, if_neg (by omega)]
  unfold abs2
  split
  · omega
  · split
    · have := g9 ‹_›; omega
    · split
      · have := g10 ‹_›; omega
      · omega
theorem vin_r {i : Im} {o : Pt} {bd out : Rc} {k : Int} {ps : List Int} (hi : ichkE i = 0) (h : needE k ps out bd = 0) (hs : Shw i o (needR k ps out bd)) (hR : 0 ≤ reachI k ps ∧ reachI k ps ≤ 16) {x y : Int} (hx : out.x ≤ x ∧ x < out.x + out.w) (hy : out.y ≤ y ∧ y < out.y + out.h) (r : Int) :
    ∀ a b : Int, -reachI k ps ≤ a → a ≤ reachI k ps → -reachI k ps ≤ b → b ≤ reachI k ps → VIn ⟨i, o, bd, k, ps, r⟩ (x + a) (y + b) :=
  fun a b a1 a2 b1 b2 => vin_of hi h hs rfl hR (by omega) (by omega)
theorem ap_n {i : Im} {o : Pt} {bd out : Rc} {k : Int} {ps : List Int} {x y : Nat} (hk : k = 5 ∨ k = 6 ∨ k = 9 ∨ k = 10) (hi : ichkE i = 0) (h : needE k ps out bd = 0) (hs : Shw i o (needR k ps out bd)) (hx : (x : Int) < out.w) (hy : (y : Int) < out.h) :
    NwH ⟨i, o, bd, k, ps, 0⟩ (out.x + x) (out.y + y) := by
  obtain ⟨h1, h2, h3, h4, h5⟩ := nd_0 h
  have he := empty_spec.1 h2
  have g := fk_rg h1
  have hR := reach_n h1 hk
  have hb := h3
  unfold BdOk at hb
  have V := vin_r hi h hs hR (x := out.x + x) (y := out.y + y) (by omega) (by omega) 0
  have bx : -16777216 ≤ out.x + x ∧ out.x + x ≤ 16777216 ∧ -16777216 ≤ out.y + y ∧ out.y + y ≤ 16777216 := by omega
  refine ⟨hk, fun h56 => ⟨bx, fun a b a1 a2 b1 b2 => ?_⟩, fun h9 => ?_, fun h10 => ?_⟩
  · simp only at h56
    have : reachI k ps = 1 := by rw [reachI, if_neg (by omega), if_pos h56]
    exact V a b (by omega) (by omega) (by omega) (by omega)
  · simp only at h9
    have g9 := g.2.1 h9
    have : reachI k ps = motN ⟨i, o, bd, k, ps, 0⟩ := by rw [reachI, if_neg (by omega), if_neg (by omega), if_pos h9]; rfl
    refine ⟨g9.1, g9.2.1, g9.2.2, bx, fun a b a1 a2 b1 b2 => ?_⟩
    exact V a b (by omega) (by omega) (by omega) (by omega)
  · simp only at h10
    have g10 := g.2.2.1 h10
    have : reachI k ps = ps.getD 0 0 - 1 := by rw [reachI, if_neg (by omega), if_neg (by omega), if_neg (by omega), if_pos h10]
    refine ⟨g10.1, g10.2, h3, by simp only; omega, by simp only; omega, fun a b a1 a2 b1 b2 => ?_⟩
    simp only at a1 a2 b1 b2
    exact V a b (by omega) (by omega) (by omega) (by omega)
end Go.Rect

set_option linter.unusedSimpArgs false
set_option linter.unusedVariables false
namespace Go.Rect
open Go.Eng
/-! ### Parts of images -/
def pickP (m : Im) (x y : Int) : Px := if (0 ≤ x ∧ x < m.w) ∧ 0 ≤ y ∧ y < m.h then m.p.getD (y * m.w + x).toNat zP else zP
theorem pkp_ix {m : Im} {x y : Int} (hm : ichkE m = 0) (h : (0 ≤ x ∧ x < m.w) ∧ 0 ≤ y ∧ y < m.h) : (0 ≤ y * m.w ∧ y * m.w ≤ 65536) ∧ 0 ≤ y * m.w + x ∧ (y * m.w + x).toNat < m.p.length ∧ (m.p.length : Int) ≤ 65536 := by
  obtain ⟨hz, _, hl, _⟩ := ichk0 hm
  have hY : ((y.toNat : Nat) : Int) = y := Int.toNat_of_nonneg h.2.1
  have hX : ((x.toNat : Nat) : Int) = x := Int.toNat_of_nonneg h.1.1
  have hi := yxI (y := y.toNat) (x := x.toNat) hz (by omega) (by omega)
  have hb := nn_bd hz
  rw [hY, hX] at hi
  refine ⟨⟨hi.2.2.1, hi.2.2.2.1⟩, by omega, ?_, by omega⟩
  rw [hi.1, Int.toNat_natCast, hl]; exact hi.2.1
theorem pkp_ok {m : Im} {x y : Int} (hm : ichkE m = 0) : validP (pickP m x y) = true := by
  unfold pickP
  split
  · next h => exact (ichk0 hm).2.2.2 _ (pkp_ix hm h).2.2.1
  · decide
theorem pkp0 {m : Im} {x y : Int} (hc : ((x < 0 ∨ m.w ≤ x) ∨ y < 0) ∨ m.h ≤ y) : zP = pickP m x y := by rw [pickP, if_neg (by omega)]
theorem pkp_h {m : Im} {x y : Int} (hc : ((0 ≤ x ∧ x < m.w) ∧ 0 ≤ y) ∧ y < m.h) : (0 ≤ x ∧ x < m.w) ∧ 0 ≤ y ∧ y < m.h := by omega
theorem pkp1 {m : Im} {x y : Int} (hc : ((0 ≤ x ∧ x < m.w) ∧ 0 ≤ y) ∧ y < m.h) : m.p.getD (y * m.w + x).toNat zP = pickP m x y := by rw [pickP, if_pos (pkp_h hc)]
def crpE (m : Im) (r : Rc) : Int := if ichkE m ≠ 0 then ichkE m else if validB r = false then 2 else if 256 < r.w ∨ 256 < r.h then 15 else 0
def crpF (m : Im) (r : Rc) (x y : Int) : Px := pickP m (r.x + x) (r.y + y)
def crpR (m : Im) (r : Rc) : Im := if crpE m r = 0 ∧ emptyB r = false then ⟨r.w, r.h, tabP (nn r.w r.h) (gP r.w.toNat (crpF m r))⟩ else zI
theorem crq1 {m : Im} {r : Rc} (hc : ¬ ichkE m = 0) : crpR m r = ⟨0, 0, []⟩ ∧ crpE m r = ichkE m := by
  have e : crpE m r = ichkE m := by rw [crpE, if_pos hc]
  exact ⟨by rw [crpR, e, if_neg (fun h => hc h.1)]; rfl, e⟩
theorem crq2 {m : Im} {r : Rc} (h : ichkE m = 0) (hc : validB r = false) : crpR m r = ⟨0, 0, []⟩ ∧ crpE m r = 2 := by
  have e : crpE m r = 2 := by rw [crpE, if_neg (by omega), if_pos hc]
  exact ⟨by rw [crpR, e]; rfl, e⟩
theorem crq3 {m : Im} {r : Rc} (h : ichkE m = 0) (h2 : validB r = true) (hc : 256 < r.w ∨ 256 < r.h) : crpR m r = ⟨0, 0, []⟩ ∧ crpE m r = 15 := by
  have e : crpE m r = 15 := by rw [crpE, if_neg (by omega), if_neg (by simp [h2]), if_pos hc]
  exact ⟨by rw [crpR, e]; rfl, e⟩
theorem crE {m : Im} {r : Rc} (h : ichkE m = 0) (h2 : validB r = true) (h3 : r.w ≤ 256 ∧ r.h ≤ 256) : crpE m r = 0 := by rw [crpE, if_neg (by omega), if_neg (by simp [h2]), if_neg (by omega)]
theorem crq4 {m : Im} {r : Rc} (h : ichkE m = 0) (h2 : validB r = true) (h3 : r.w ≤ 256 ∧ r.h ≤ 256) (hc : emptyB r = true) : crpR m r = ⟨0, 0, []⟩ ∧ crpE m r = 0 :=
  ⟨by rw [crpR, if_neg (by simp [hc])]; rfl, crE h h2 h3⟩
theorem crq5 {m : Im} {r : Rc} (h : ichkE m = 0) (h2 : validB r = true) (h3 : r.w ≤ 256 ∧ r.h ≤ 256) (hc : emptyB r = false) : crpR m r = ⟨r.w, r.h, tabP (nn r.w r.h) (gP r.w.toNat (crpF m r))⟩ ∧ crpE m r = 0 :=
  ⟨by rw [crpR, if_pos ⟨crE h h2 h3, hc⟩], crE h h2 h3⟩
theorem cr_z {r : Rc} (hc : emptyB r = false) (h3 : r.w ≤ 256 ∧ r.h ≤ 256) : Z0 r.w r.h := by have := empty_spec.1 hc; unfold Z0; omega
theorem cr_end {r : Rc} {y : Nat} {f : Nat → Px} (hY : y ≤ r.h.toNat) (hc : r.h ≤ (y : Int)) : tabP (y * r.w.toNat) f = tabP (nn r.w r.h) f := by
  have : y = r.h.toNat := by omega
  subst this; rw [nn, Nat.mul_comm]
/-! ### A new image -/
def nwpE (w h : Int) (p : Px) : Int := if isz w h = false then 15 else if validP p = false then 2 else 0
def nwpR (w h : Int) (p : Px) : Im := if nwpE w h p = 0 then ⟨w, h, tabP (nn w h) fun _ => p⟩ else zI
theorem isz_F {w h : Int} (hc : (((w < 0 ∨ 256 < w) ∨ h < 0) ∨ 256 < h) ∨ ¬ (w == 0) = (h == 0)) : isz w h = false := by
  unfold isz
  rw [Bool.eq_false_iff]
  intro g
  simp only [Bool.and_eq_true, decide_eq_true_eq, beq_iff_eq] at g
  rcases hc with hc | hc
  · omega
  · exact hc g.2
theorem isz_T {w h : Int} (hc : (((0 ≤ w ∧ w ≤ 256) ∧ 0 ≤ h) ∧ h ≤ 256) ∧ (w == 0) = (h == 0)) : isz w h = true := by
  unfold isz
  simp only [Bool.and_eq_true, decide_eq_true_eq, beq_iff_eq]
  exact ⟨by omega, hc.2⟩
theorem np1 {w h : Int} {p : Px} (hc : isz w h = false) : nwpR w h p = ⟨0, 0, []⟩ ∧ nwpE w h p = 15 := by
  have e : nwpE w h p = 15 := by rw [nwpE, if_pos hc]
  exact ⟨by rw [nwpR, e]; rfl, e⟩
theorem np2 {w h : Int} {p : Px} (h1 : isz w h = true) (hc : validP p = false) : nwpR w h p = ⟨0, 0, []⟩ ∧ nwpE w h p = 2 := by
  have e : nwpE w h p = 2 := by rw [nwpE, if_neg (by simp [h1]), if_pos hc]
  exact ⟨by rw [nwpR, e]; rfl, e⟩
theorem np3 {w h : Int} {p : Px} (h1 : isz w h = true) (hc : validP p = true) : nwpR w h p = ⟨w, h, tabP (nn w h) fun _ => p⟩ ∧ nwpE w h p = 0 := by
  have e : nwpE w h p = 0 := by rw [nwpE, if_neg (by simp [h1]), if_neg (by simp [hc])]
  exact ⟨by rw [nwpR, e]; rfl, e⟩
/-! ### Pixels are valid -/
theorem vP_of {p : Px} (h : (0 ≤ p.r ∧ p.r ≤ 65535) ∧ (0 ≤ p.g ∧ p.g ≤ 65535) ∧ (0 ≤ p.b ∧ p.b ≤ 65535) ∧ (0 ≤ p.a ∧ p.a ≤ 65535)) : validP p = true := by
  unfold validP limP unitI
  rw [decide_eq_true_eq]
  obtain ⟨r, g, b, a⟩ := p
  simp only at h
  congr 1 <;> (simp only; omega)
theorem zP_ok : validP zP = true := by decide
theorem clr_ok {p : Px} (h : validP p = true) : validP (clrP p) = true := by
  unfold clrP; split
  · exact zP_ok
  · exact h
theorem dv_in {s a : Int} (ha : 0 ≤ a) (hs : 0 ≤ s ∧ s ≤ 65535 * a) : 0 ≤ divI s a ∧ divI s a ≤ 65535 := aw_bd (c := 0) (by omega) ha hs
theorem mean_ok {s : Sm} (h : SmOk s) : validP (meanS s) = true := by
  unfold SmOk at h
  unfold meanS
  split
  · exact zP_ok
  · split
    · exact zP_ok
    · exact vP_of ⟨dv_in (by omega) h.2.2.2.2.1, dv_in (by omega) h.2.2.2.2.2.1, dv_in (by omega) h.2.2.2.2.2.2, dv_in (by omega) ⟨by omega, by omega⟩⟩
theorem chn_bd {p : Px} (h : validP p = true) (c : Nat) : 0 ≤ chn c p ∧ chn c p ≤ 65535 := by
  have := vP_bd h
  match c with
  | 0 => exact this.1
  | 1 => exact this.2.1
  | 2 => exact this.2.2.1
  | _ + 3 => exact this.2.2.2
theorem sel_bd {v : Vw} {x y : Int} (h : RkH v x y) (k : Int) (c : Nat) : 0 ≤ selI k (winS v x y c) ∧ selI k (winS v x y c) ≤ 65535 := by
  have hm := sel_mem k (ws_bd h c).1
  obtain ⟨i, j, hi, hj, e⟩ := win_mem hm
  rw [e]
  exact chn_bd (pix_ok (h.2.2.2 i j hi.1 hi.2 hj.1 hj.2)) c
theorem rank_ok {v : Vw} {x y : Int} (h : RkH v x y) : validP (rankF v x y) = true := vP_of ⟨sel_bd h _ 0, sel_bd h _ 1, sel_bd h _ 2, sel_bd h _ 3⟩
theorem gray_ok {c a : Int} (h : 0 ≤ a ∧ a ≤ 65535) : validP (grayP c a) = true := by
  have := unit_bd c
  exact vP_of ⟨this, this, this, h⟩
theorem sharp_ok {v : Vw} {wt : List Int} {x y : Int} (h : VIn v x y) : validP (sharpF v wt x y) = true := by
  unfold sharpF sharpP
  split
  · exact zP_ok
  · exact vP_of ⟨unit_bd _, unit_bd _, unit_bd _, (vP_bd (pix_ok h)).2.2.2⟩
/-- What the filters need to be right. -/
def FlH (v : Vw) (wt : List Int) (x y : Int) : Prop := (v.kind = 1 ∨ v.kind = 2 ∨ v.kind = 3 → SqH v wt x y) ∧ (v.kind = 4 ∨ v.kind = 7 ∨ v.kind = 8 → RkH v x y) ∧ (v.kind = 5 ∨ v.kind = 6 → EdH v x y) ∧ (v.kind = 9 → MtH v x y) ∧ (v.kind = 10 → PgH v x y) ∧ (1 ≤ v.kind ∧ v.kind ≤ 10)
theorem fil_ok {v : Vw} {wt : List Int} {x y : Int} (h : FlH v wt x y) : validP (filF v wt x y) = true := by
  obtain ⟨h1, h2, h3, h4, h5, h6⟩ := h
  unfold filF
  split
  · exact mean_ok (sm_a (h1 (by omega)))
  · split
    · exact rank_ok (h2 (by omega))
    · split
      · exact sharp_ok (sq_ctr (h1 (by omega)))
      · split
        · exact gray_ok (vP_bd (pix_ok (ed_in (h3 (by omega))).2.2.2.2.2.2.2.2)).2.2.2
        · split
          · exact gray_ok (vP_bd (pix_ok (ed_in (h3 (by omega))).2.2.2.2.2.2.2.2)).2.2.2
          · split
            · next h9 => exact mean_ok (mt_ok (h4 h9) _ (by have := motN_0 v; omega))
            · exact mean_ok (pg_ok0 (h5 (by omega)) _ (Nat.le_refl _))
theorem fl_of {i : Im} {o : Pt} {bd out : Rc} {k : Int} {ps : List Int} {x y : Nat} (hi : ichkE i = 0) (h : needE k ps out bd = 0) (hs : Shw i o (needR k ps out bd)) (hx : (x : Int) < out.w) (hy : (y : Int) < out.h) :
    FlH (vwOf i o bd k ps) (wtL k (ps.getD 0 0)) (out.x + x) (out.y + y) := by
  obtain ⟨h1, h2, h3, h4, h5⟩ := nd_0 h
  have hk := (fk_rg h1).1
  refine ⟨fun g => ap_sq g hi h hs hx hy, fun g => ap_rk g hi h hs hx hy, fun g => ?_, fun g => ?_, fun g => ?_, hk⟩
  · exact (ap_n (k := k) (by rcases g with g | g <;> simp only [vwOf] at g <;> omega) hi h hs hx hy).2.1 g
  · exact (ap_n (k := k) (by simp only [vwOf] at g; omega) hi h hs hx hy).2.2.1 g
  · exact (ap_n (k := k) (by simp only [vwOf] at g; omega) hi h hs hx hy).2.2.2 g
end Go.Rect

set_option linter.unusedSimpArgs false
set_option linter.unusedVariables false
namespace Go.Rect
open Go.Eng
/-! ### A filtered pixel hangs on the pixels in reach alone -/
theorem foldl_cg {α β : Type} {f g : β → α → β} : ∀ (l : List α) (b : β), (∀ a ∈ l, ∀ b, f b a = g b a) → l.foldl f b = l.foldl g b
  | [], b, _ => rfl
  | a :: l, b, h => by
    simp only [List.foldl_cons]
    rw [h a (by simp)]
    exact foldl_cg l _ fun a' ha => h a' (by simp [ha])
structure Lik (v u : Vw) (x y R : Int) : Prop where
  bd : u.bd = v.bd
  kind : u.kind = v.kind
  ps : u.ps = v.ps
  rad : u.rad = v.rad
  px : ∀ a b : Int, -R ≤ a → a ≤ R → -R ≤ b → b ≤ R → pixF u (x + a) (y + b) = pixF v (x + a) (y + b)
section
variable {v u : Vw} {x y R : Int} {wt : List Int}
theorem lk_c (h : Lik v u x y R) (hR : 0 ≤ R) : pixF u x y = pixF v x y := by
  have := h.px 0 0 (by omega) (by omega) (by omega) (by omega)
  simpa only [Int.add_zero] using this
theorem lk_row (h : Lik v u x y R) (hr : v.rad ≤ R) {s : Sm} {j k : Nat} (hj : j < (2 * v.rad + 1).toNat) (hk : k ≤ (2 * v.rad + 1).toNat) : sqRow u wt x y s j k = sqRow v wt x y s j k := by
  unfold sqRow
  refine foldl_cg _ _ fun i hi b => ?_
  simp only [List.mem_range] at hi
  rw [h.rad, h.px _ _ (by omega) (by omega) (by omega) (by omega)]
theorem lk_sq (h : Lik v u x y R) (hr : v.rad ≤ R) : sqS u wt x y = sqS v wt x y := by
  unfold sqS sqK
  rw [h.rad]
  have : ∀ s, sqRow u wt x y s (2 * v.rad + 1).toNat 0 = s := fun s => rfl
  rw [this]
  have : ∀ s, sqRow v wt x y s (2 * v.rad + 1).toNat 0 = s := fun s => rfl
  rw [this]
  refine foldl_cg _ _ fun j hj b => ?_
  simp only [List.mem_range] at hj
  exact lk_row h hr hj (Nat.le_refl _)
theorem lk_win (h : Lik v u x y R) (hr : v.rad ≤ R) (c : Nat) : winS u x y c = winS v x y c := by
  unfold winS winK
  rw [h.rad]
  have e : ∀ j k, j < (2 * v.rad + 1).toNat → k ≤ (2 * v.rad + 1).toNat → winR u x y c j k = winR v x y c j k := fun j k hj hk => by
    unfold winR
    refine List.map_congr_left fun i hi => ?_
    simp only [List.mem_range] at hi
    rw [h.rad, h.px _ _ (by omega) (by omega) (by omega) (by omega)]
  congr 1
  simp only [List.flatMap_eq_foldl]
  refine foldl_cg _ _ fun j hj b => ?_
  simp only [List.mem_range] at hj
  rw [e j _ hj (Nat.le_refl _)]
theorem lk_lum (h : Lik v u x y R) {a b : Int} (h1 : -R ≤ a) (h2 : a ≤ R) (h3 : -R ≤ b) (h4 : b ≤ R) : lumF u (x + a) (y + b) = lumF v (x + a) (y + b) := by
  unfold lumF; rw [h.px a b h1 h2 h3 h4]
theorem lk_edge (h : Lik v u x y R) (hR : 1 ≤ R) : edgeF u x y = edgeF v x y ∧ embF u x y = embF v x y := by
  have a1 := lk_lum h (a := 1) (b := -1) (by omega) (by omega) (by omega) (by omega)
  have a2 := lk_lum h (a := 1) (b := 0) (by omega) (by omega) (by omega) (by omega)
  have a3 := lk_lum h (a := 1) (b := 1) (by omega) (by omega) (by omega) (by omega)
  have a4 := lk_lum h (a := -1) (b := -1) (by omega) (by omega) (by omega) (by omega)
  have a5 := lk_lum h (a := -1) (b := 0) (by omega) (by omega) (by omega) (by omega)
  have a6 := lk_lum h (a := -1) (b := 1) (by omega) (by omega) (by omega) (by omega)
  have a7 := lk_lum h (a := 0) (b := 1) (by omega) (by omega) (by omega) (by omega)
  have a8 := lk_lum h (a := 0) (b := -1) (by omega) (by omega) (by omega) (by omega)
  have a9 := lk_c h (by omega)
  simp only [Int.add_zero, ← Int.sub_eq_add_neg] at a1 a2 a3 a4 a5 a6 a7 a8
  unfold edgeF embF edgX edgY
  rw [a1, a2, a3, a4, a5, a6, a7, a8, a9]
  exact ⟨rfl, rfl⟩
theorem lk_mot (h : Lik v u x y R) (hp : (-16 ≤ v.ps.getD 0 0 ∧ v.ps.getD 0 0 ≤ 16) ∧ (-16 ≤ v.ps.getD 1 0 ∧ v.ps.getD 1 0 ≤ 16)) (hn : motN v ≤ R) : motF u x y = motF v x y := by
  have en : motN u = motN v := by unfold motN; rw [h.ps]
  unfold motF motK
  rw [en]
  congr 1
  refine foldl_cg _ _ fun j hj b => ?_
  simp only [List.mem_range] at hj
  have n0 := motN_0 v
  have e1 : -motN v ≤ v.ps.getD 0 0 ∧ v.ps.getD 0 0 ≤ motN v := by unfold motN abs2; omega
  have e2 : -motN v ≤ v.ps.getD 1 0 ∧ v.ps.getD 1 0 ≤ motN v := by unfold motN abs2; omega
  have d1 := div_way (k := (j : Int)) ⟨by omega, by omega⟩ e1
  have d2 := div_way (k := (j : Int)) ⟨by omega, by omega⟩ e2
  unfold motP
  rw [en, h.ps, h.px _ _ (by omega) (by omega) (by omega) (by omega)]
theorem lk_pxl (h : Lik v u x y R) (hz : 1 ≤ v.ps.getD 0 0) (hn : v.ps.getD 0 0 - 1 ≤ R) (hx : v.bd.x ≤ x ∧ x < v.bd.x + v.bd.w) (hy : v.bd.y ≤ y ∧ y < v.bd.y + v.bd.h) : pxlF u x y = pxlF v x y := by
  have eX : pgX u x = pgX v x := by unfold pgX; rw [h.ps, h.bd]
  have eY : pgY u y = pgY v y := by unfold pgY; rw [h.ps, h.bd]
  have eW : pgW u x = pgW v x := by unfold pgW; rw [eX, h.ps, h.bd]
  have eH : pgH u y = pgH v y := by unfold pgH; rw [eY, h.ps, h.bd]
  have hbx : pgX v x ≤ x ∧ x < pgX v x + v.ps.getD 0 0 := blk_bd hz
  have hby : pgY v y ≤ y ∧ y < pgY v y + v.ps.getD 0 0 := blk_bd hz
  have e : ∀ (j k : Nat) (s : Sm), j < pgH v y → k ≤ pgW v x → pgRow u (pgX v x) (pgY v y + j) s k = pgRow v (pgX v x) (pgY v y + j) s k := fun j k s hj hk => by
    unfold pgRow
    refine foldl_cg _ _ fun i hi b => ?_
    simp only [List.mem_range] at hi
    have hW : (k : Int) ≤ v.ps.getD 0 0 := by unfold pgW at hk; omega
    have hH : (j : Int) < v.ps.getD 0 0 := by unfold pgH at hj; omega
    have := h.px (pgX v x + i - x) (pgY v y + j - y) (by omega) (by omega) (by omega) (by omega)
    rw [show x + (pgX v x + (i : Int) - x) = pgX v x + i by omega, show y + (pgY v y + (j : Int) - y) = pgY v y + j by omega] at this
    rw [this]
  unfold pxlF pgK
  rw [eX, eY, eW, eH]
  congr 1
  have e0 : ∀ s, pgRow u (pgX v x) (pgY v y + ((pgH v y : Nat) : Int)) s 0 = s := fun s => rfl
  have e1 : ∀ s, pgRow v (pgX v x) (pgY v y + ((pgH v y : Nat) : Int)) s 0 = s := fun s => rfl
  rw [e0, e1]
  refine foldl_cg _ _ fun j hj b => ?_
  simp only [List.mem_range] at hj
  exact e j _ b hj (Nat.le_refl _)
end
/-- Two views of one image that show what a pixel needs. -/
theorem lk_fil {v u : Vw} {wt : List Int} {x y : Int} (hf : fchkE v.kind v.ps = 0) (hrad : v.rad = v.ps.getD 0 0) (h : Lik v u x y (reachI v.kind v.ps)) (hx : v.bd.x ≤ x ∧ x < v.bd.x + v.bd.w) (hy : v.bd.y ≤ y ∧ y < v.bd.y + v.bd.h) : filF u wt x y = filF v wt x y := by
  have g := fk_rg hf
  have hR : v.kind = 1 ∨ v.kind = 2 ∨ v.kind = 3 ∨ v.kind = 4 ∨ v.kind = 7 ∨ v.kind = 8 → v.rad ≤ reachI v.kind v.ps ∧ 0 ≤ v.rad := fun hk => by
    have := reach_1 hf hk; omega
  unfold filF
  rw [h.kind]
  split
  · rw [lk_sq h (hR (by omega)).1]
  · split
    · have hr := hR (by omega)
      unfold rankF
      rw [h.kind, lk_win h hr.1, lk_win h hr.1, lk_win h hr.1, lk_win h hr.1]
    · split
      · have hr := hR (by omega)
        unfold sharpF
        rw [h.ps, lk_sq h hr.1, lk_c h (by omega)]
      · split
        · next h5 => exact (lk_edge h (by rw [reachI, if_neg (by omega), if_pos (.inl h5)]; omega)).1
        · split
          · next h6 => exact (lk_edge h (by rw [reachI, if_neg (by omega), if_pos (.inr h6)]; omega)).2
          · split
            · next h9 =>
              have g9 := g.2.1 h9
              refine lk_mot h g9.2 ?_
              rw [reachI, if_neg (by omega), if_neg (by omega), if_pos h9]
              exact Int.le_refl _
            · next k1 k4 k3 k5 k6 k9 =>
              have h10 : v.kind = 10 := by omega
              have g10 := g.2.2.1 h10
              refine lk_pxl h g10.2.1 ?_ hx hy
              rw [reachI, if_neg (by omega), if_neg (by omega), if_neg (by omega), if_pos h10]
              exact Int.le_refl _
/-! ### A filtered image -/
section
variable {i : Im} {k : Int} {ps : List Int}
def allR (i : Im) : Rc := ⟨0, 0, i.w, i.h⟩
theorem gw_need (hi : ichkE i = 0) (hw : ¬ i.w = 0) (hf : fchkE k ps = 0) : needE k ps (allR i) (allR i) = 0 := by
  obtain ⟨hz, hh, _⟩ := ichk0 hi
  unfold Z0 at hz
  have he : emptyB (allR i) = false := empty_spec.2 (by simp only [allR]; omega)
  have hv : validB (allR i) = true := valid_spec.2 (by simp only [allR]; omega)
  have hwi : withinB (allR i) (allR i) = true := within_spec.2 (.inr ⟨he, by omega⟩)
  rw [needE, if_neg (by omega), badB, he, hv, hwi]; rfl
theorem gw_show (hi : ichkE i = 0) (hw : ¬ i.w = 0) (hf : fchkE k ps = 0) : showB i ⟨0, 0⟩ (needR k ps (allR i) (allR i)) = true := by
  have hn := gw_need hi hw hf
  obtain ⟨hz, hh, _⟩ := ichk0 hi
  unfold Z0 at hz
  have hR := nd_R hn
  have h0 := (nd_0 hn).2.2.1
  rcases meet_cases (growR (allR i) (reachI k ps)) (allR i) with ⟨e, h⟩ | ⟨h1, h2, h3, h4, h5, h6, h7⟩
  · rw [hR, e]
    simp [showB, zR]; omega
  · rw [hR]
    simp only [showB, Bool.and_eq_true, decide_eq_true_eq]
    simp only [allR] at h4 h5 h6 h7 ⊢
    omega
theorem gw_R (hi : ichkE i = 0) (hw : ¬ i.w = 0) (hf : fchkE k ps = 0) : whlE i k ps = 0 ∧ whlR i k ps = ⟨i.w, i.h, tabP (nn i.w i.h) (gP i.w.toNat (appF (vwOf i ⟨0, 0⟩ (allR i) k ps) (wtL k (ps.getD 0 0)) (allR i)))⟩ := by
  have h1 := wh4 hi hf hw
  have h2 := ap4 hi (gw_need hi hw hf) (gw_show hi hw hf)
  exact ⟨h1.2.trans h2.2, h1.1.trans h2.1⟩
theorem gw_fl (hi : ichkE i = 0) (hw : ¬ i.w = 0) (hf : fchkE k ps = 0) {x y : Nat} (hx : (x : Int) < i.w) (hy : (y : Int) < i.h) : FlH (vwOf i ⟨0, 0⟩ (allR i) k ps) (wtL k (ps.getD 0 0)) x y := by
  have := fl_of (x := x) (y := y) hi (gw_need hi hw hf) (shw (gw_show hi hw hf)) hx hy
  simpa only [allR, Int.zero_add] using this
theorem ich_of {w h : Int} {f : Nat → Px} (hs : isz w h = true) (hp : ∀ j, j < nn w h → validP (f j) = true) : ichkE ⟨w, h, tabP (nn w h) f⟩ = 0 := by
  have hz := isz_z hs
  rw [ichkE, if_pos, if_pos]
  · rw [List.all_eq_true]
    intro p hp'
    simp only [tabP, List.mem_map, List.mem_range] at hp'
    obtain ⟨j, hj, rfl⟩ := hp'
    exact hp j hj
  · rw [iszE]
    simp only [hs, Bool.true_and, decide_eq_true_eq, tabP_len]
    exact nnE hz
theorem isz_i (hi : ichkE i = 0) : isz i.w i.h = true := by
  obtain ⟨hz, hh, _⟩ := ichk0 hi
  unfold Z0 at hz
  unfold isz
  simp only [Bool.and_eq_true, decide_eq_true_eq, beq_iff_eq]
  refine ⟨by omega, ?_⟩
  rw [Bool.eq_iff_iff]; simp only [beq_iff_eq]; exact hh
theorem gw_xy (hi : ichkE i = 0) (hw : ¬ i.w = 0) {j : Nat} (hj : j < nn i.w i.h) : ((j % i.w.toNat : Nat) : Int) < i.w ∧ ((j / i.w.toNat : Nat) : Int) < i.h := by
  obtain ⟨hz, hh, _⟩ := ichk0 hi
  unfold Z0 at hz
  have hw' : 0 < i.w.toNat := by omega
  have h1 := Nat.mod_lt j hw'
  have h2 : j / i.w.toNat < i.h.toNat := Nat.div_lt_of_lt_mul hj
  omega
theorem gw_chk (hi : ichkE i = 0) (hw : ¬ i.w = 0) (hf : fchkE k ps = 0) : ichkE (whlR i k ps) = 0 := by
  rw [(gw_R hi hw hf).2]
  refine ich_of (isz_i hi) fun j hj => ?_
  have h := gw_xy hi hw hj
  rw [gP, appF]
  simp only [allR, Int.zero_add]
  exact clr_ok (fil_ok (gw_fl hi hw hf h.1 h.2))
end
end Go.Rect

