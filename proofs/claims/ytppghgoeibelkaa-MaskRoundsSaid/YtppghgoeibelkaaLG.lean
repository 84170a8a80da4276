import Derived.Test.YtppghgoeibelkaaLF
set_option linter.unusedSimpArgs false
set_option linter.unusedVariables false
set_option linter.unusedSimpArgs false
set_option linter.unusedVariables false
namespace Go.Rect
open Go.Eng
/-! ### Ellipses that fill a mask -/
def rB (a b u v : Int) : Bool := decide (-(16 * a) ≤ u) && decide (u ≤ 16 * a) && decide (-(16 * b) ≤ v) && decide (v ≤ 16 * b) && decide (u * (16 * b) * u * (16 * b) + v * (16 * a) * v * (16 * a) ≤ (16 * a) * (16 * b) * (16 * a) * (16 * b))
theorem rnd_rB (a b X Y : Int) : rndB ⟨0, 0, a, b⟩ X Y = rB a b (2 * X + 1 - 16 * a) (2 * Y + 1 - 16 * b) := by
  simp only [rndB, rB, Int.mul_zero, Int.zero_add]
theorem rB_u (a b u v : Int) : rB a b (-u) v = rB a b u v := by
  have e : (-u) * (16 * b) * (-u) * (16 * b) = u * (16 * b) * u * (16 * b) := by simp only [Int.neg_mul, Int.mul_neg, Int.neg_neg]
  unfold rB
  rw [e, Bool.eq_iff_iff]
  simp only [Bool.and_eq_true, decide_eq_true_eq]
  constructor
  · rintro ⟨⟨⟨⟨h1, h2⟩, h3⟩, h4⟩, h5⟩; exact ⟨⟨⟨⟨by omega, by omega⟩, h3⟩, h4⟩, h5⟩
  · rintro ⟨⟨⟨⟨h1, h2⟩, h3⟩, h4⟩, h5⟩; exact ⟨⟨⟨⟨by omega, by omega⟩, h3⟩, h4⟩, h5⟩
theorem rB_v (a b u v : Int) : rB a b u (-v) = rB a b u v := by
  have e : (-v) * (16 * a) * (-v) * (16 * a) = v * (16 * a) * v * (16 * a) := by simp only [Int.neg_mul, Int.mul_neg, Int.neg_neg]
  unfold rB
  rw [e, Bool.eq_iff_iff]
  simp only [Bool.and_eq_true, decide_eq_true_eq]
  constructor
  · rintro ⟨⟨⟨⟨h1, h2⟩, h3⟩, h4⟩, h5⟩; exact ⟨⟨⟨⟨h1, h2⟩, by omega⟩, by omega⟩, h5⟩
  · rintro ⟨⟨⟨⟨h1, h2⟩, h3⟩, h4⟩, h5⟩; exact ⟨⟨⟨⟨h1, h2⟩, by omega⟩, by omega⟩, h5⟩
theorem sum16 (f : Nat → Int) : ((List.range 16).map f).sum = f 0 + (f 1 + (f 2 + (f 3 + (f 4 + (f 5 + (f 6 + (f 7 + (f 8 + (f 9 + (f 10 + (f 11 + (f 12 + (f 13 + (f 14 + (f 15 + 0))))))))))))))) := rfl
theorem rev16 {f g : Nat → Int} (h : ∀ i, i < 16 → f i = g (15 - i)) : ((List.range 16).map f).sum = ((List.range 16).map g).sum := by
  rw [sum16, sum16, h 0 (by omega), h 1 (by omega), h 2 (by omega), h 3 (by omega), h 4 (by omega), h 5 (by omega), h 6 (by omega), h 7 (by omega), h 8 (by omega), h 9 (by omega), h 10 (by omega), h 11 (by omega), h 12 (by omega), h 13 (by omega), h 14 (by omega), h 15 (by omega)]
  simp only [Nat.sub_zero, Nat.sub_self, Nat.reduceSub]
  omega
theorem samp_eq (r : Rc) (x y : Int) : sampI r x y = ((List.range 16).map fun j => ((List.range 16).map fun i => b2i (rndG r x y j i)).sum).sum := by
  simp [sampI, cnt2]
theorem samp_x (a b x y : Int) : sampI ⟨0, 0, a, b⟩ (a - 1 - x) y = sampI ⟨0, 0, a, b⟩ x y := by
  rw [samp_eq, samp_eq]
  congr 1; apply List.map_congr_left; intro j _
  apply rev16
  intro i hi
  congr 1
  simp only [rndG]
  rw [rnd_rB, rnd_rB, ← rB_u]
  congr 1; omega
theorem samp_y (a b x y : Int) : sampI ⟨0, 0, a, b⟩ x (b - 1 - y) = sampI ⟨0, 0, a, b⟩ x y := by
  rw [samp_eq, samp_eq]
  apply rev16
  intro j hj
  congr 1; apply List.map_congr_left; intro i _
  congr 1
  simp only [rndG]
  rw [rnd_rB, rnd_rB, ← rB_v]
  congr 1; omega
theorem eF_x (a b x y : Int) : eF ⟨0, 0, a, b⟩ (a - 1 - x) y = eF ⟨0, 0, a, b⟩ x y := by unfold eF; rw [samp_x]
theorem eF_y (a b x y : Int) : eF ⟨0, 0, a, b⟩ x (b - 1 - y) = eF ⟨0, 0, a, b⟩ x y := by unfold eF; rw [samp_y]
/-! ### Sums over a grid -/
def sumN (f : Nat → Int) (n : Nat) : Int := ((List.range n).map f).sum
theorem sumN_succ (f : Nat → Int) (n : Nat) : sumN f (n + 1) = sumN f n + f n := by simp [sumN, List.range_succ]
theorem sumN_0 (f : Nat → Int) : sumN f 0 = 0 := rfl
theorem sumN_add (f : Nat → Int) (m : Nat) : ∀ n, sumN f (m + n) = sumN f m + sumN (fun i => f (m + i)) n
  | 0 => by simp [sumN]
  | n + 1 => by rw [← Nat.add_assoc, sumN_succ, sumN_add f m n, sumN_succ]; omega
theorem sumN_le {f g : Nat → Int} : ∀ {n : Nat}, (∀ i, i < n → f i ≤ g i) → sumN f n ≤ sumN g n
  | 0, _ => Int.le_refl _
  | n + 1, h => by
    have := sumN_le (n := n) fun i hi => h i (by omega)
    have := h n (by omega)
    rw [sumN_succ, sumN_succ]; omega
theorem sumN_ext {f g : Nat → Int} {n : Nat} (h : ∀ i, i < n → f i = g i) : sumN f n = sumN g n := by
  unfold sumN; congr 1; apply List.map_congr_left; intro i hi; exact h i (by simpa using hi)
theorem sumN_mul (f : Nat → Int) (c : Int) (n : Nat) : sumN (fun i => f i * c) n = sumN f n * c := sum_mul f c _
theorem sumN_plus (f g : Nat → Int) : ∀ n, sumN (fun i => f i + g i) n = sumN f n + sumN g n
  | 0 => rfl
  | n + 1 => by rw [sumN_succ, sumN_succ, sumN_succ, sumN_plus f g n]; omega
theorem sumN_const (c : Int) : ∀ n, sumN (fun _ => c) n = c * n
  | 0 => by simp [sumN]
  | n + 1 => by
    rw [sumN_succ, sumN_const c n]
    have : ((n + 1 : Nat) : Int) = n + 1 := by omega
    rw [this, Int.mul_add]; omega
/-- Products over the columns and the rows. -/
theorem sum_grid (F G : Nat → Int) {a : Nat} (ha : 0 < a) : ∀ b, sumN (fun k => F (k % a) * G (k / a)) (a * b) = sumN F a * sumN G b
  | 0 => by simp [sumN]
  | b + 1 => by
    rw [Nat.mul_succ, sumN_add, sum_grid F G ha b, sumN_succ, Int.mul_add]
    congr 1
    rw [← sumN_mul]
    apply sumN_ext
    intro i hi
    have e1 : (a * b + i) % a = i := by rw [Nat.mul_add_mod, Nat.mod_eq_of_lt hi]
    have e2 : (a * b + i) / a = b := by rw [Nat.mul_add_div ha, Nat.div_eq_of_lt hi]; omega
    rw [e1, e2]
/-! ### What lies inside -/
def c1 (a X : Int) : Int := if -(8 * a) ≤ 2 * X + 1 - 16 * a ∧ 2 * X + 1 - 16 * a ≤ 8 * a then 1 else 0
def c2 (a X : Int) : Int := if (2 * X + 1 - 16 * a < -(8 * a) ∨ 8 * a < 2 * X + 1 - 16 * a) ∧ -(64 * a) ≤ 5 * (2 * X + 1 - 16 * a) ∧ 5 * (2 * X + 1 - 16 * a) ≤ 64 * a then 1 else 0
def r1 (b Y : Int) : Int := if -(96 * b) ≤ 7 * (2 * Y + 1 - 16 * b) ∧ 7 * (2 * Y + 1 - 16 * b) ≤ 96 * b then 1 else 0
def r2 (b Y : Int) : Int := if -(48 * b) ≤ 5 * (2 * Y + 1 - 16 * b) ∧ 5 * (2 * Y + 1 - 16 * b) ≤ 48 * b then 1 else 0
theorem sq_le {p q : Int} (h1 : -q ≤ p) (h2 : p ≤ q) : p * p ≤ q * q := by
  have h : p.natAbs * p.natAbs ≤ q.natAbs * q.natAbs := Nat.mul_le_mul (by omega) (by omega)
  rw [← Int.natAbs_mul_self (a := p), ← Int.natAbs_mul_self (a := q)]
  omega
theorem in_ell {a b u v : Int} (ha : 0 < a) (hb : 0 < b) (h1 : -(16 * a) ≤ u ∧ u ≤ 16 * a) (h2 : -(16 * b) ≤ v ∧ v ≤ 16 * b) (h : (u * u) * (b * b) + (v * v) * (a * a) ≤ 256 * ((a * a) * (b * b))) : rB a b u v = true := by
  have e1 : u * (16 * b) * u * (16 * b) = 256 * ((u * u) * (b * b)) := by
    have : u * (16 * b) * u * (16 * b) = (16 * 16) * ((u * u) * (b * b)) := by simp only [Int.mul_assoc, Int.mul_left_comm, Int.mul_comm]
    rw [this]; omega
  have e2 : v * (16 * a) * v * (16 * a) = 256 * ((v * v) * (a * a)) := by
    have : v * (16 * a) * v * (16 * a) = (16 * 16) * ((v * v) * (a * a)) := by simp only [Int.mul_assoc, Int.mul_left_comm, Int.mul_comm]
    rw [this]; omega
  have e3 : (16 * a) * (16 * b) * (16 * a) * (16 * b) = 65536 * ((a * a) * (b * b)) := by
    have : (16 * a) * (16 * b) * (16 * a) * (16 * b) = (16 * 16 * 16 * 16) * ((a * a) * (b * b)) := by simp only [Int.mul_assoc, Int.mul_left_comm, Int.mul_comm]
    rw [this]; omega
  simp only [rB, Bool.and_eq_true, decide_eq_true_eq]
  rw [e1, e2, e3]
  exact ⟨⟨⟨⟨h1.1, h1.2⟩, h2.1⟩, h2.2⟩, by omega⟩
theorem in_1 {a b X Y : Int} (ha : 0 < a) (hb : 0 < b) : c1 a X * r1 b Y + c2 a X * r2 b Y ≤ b2i (rndB ⟨0, 0, a, b⟩ X Y) := by
  have n0 := b2i_01 (rndB ⟨0, 0, a, b⟩ X Y)
  rw [rnd_rB] at n0 ⊢
  generalize hu : 2 * X + 1 - 16 * a = u at *
  generalize hv : 2 * Y + 1 - 16 * b = v at *
  have aa := sqnn a; have bb := sqnn b
  have ab : 0 ≤ (a * a) * (b * b) := Int.mul_nonneg aa bb
  have case1 : (-(8 * a) ≤ u ∧ u ≤ 8 * a) → (-(96 * b) ≤ 7 * v ∧ 7 * v ≤ 96 * b) → rB a b u v = true := by
    intro p q
    apply in_ell ha hb (by omega) (by omega)
    have s1 := sq_le (p := u) (q := 8 * a) (by omega) p.2
    have s2 := sq_le (p := 7 * v) (q := 96 * b) (by omega) q.2
    have x1 : 8 * a * (8 * a) = 64 * (a * a) := by have : 8 * a * (8 * a) = (8 * 8) * (a * a) := by simp only [Int.mul_assoc, Int.mul_left_comm, Int.mul_comm]
                                                   rw [this]; omega
    have x2 : 96 * b * (96 * b) = 9216 * (b * b) := by have : 96 * b * (96 * b) = (96 * 96) * (b * b) := by simp only [Int.mul_assoc, Int.mul_left_comm, Int.mul_comm]
                                                       rw [this]; omega
    have x3 : 7 * v * (7 * v) = 49 * (v * v) := by have : 7 * v * (7 * v) = (7 * 7) * (v * v) := by simp only [Int.mul_assoc, Int.mul_left_comm, Int.mul_comm]
                                                   rw [this]; omega
    have y1 := Int.mul_le_mul_of_nonneg_right (show u * u ≤ 64 * (a * a) by omega) bb
    have y2 := Int.mul_le_mul_of_nonneg_right (show 49 * (v * v) ≤ 9216 * (b * b) by omega) aa
    have z1 : 64 * (a * a) * (b * b) = 64 * ((a * a) * (b * b)) := Int.mul_assoc _ _ _
    have z2 : 9216 * (b * b) * (a * a) = 9216 * ((a * a) * (b * b)) := by rw [Int.mul_assoc, Int.mul_comm (b * b)]
    have z3 : 49 * (v * v) * (a * a) = 49 * ((v * v) * (a * a)) := Int.mul_assoc _ _ _
    omega
  have case2 : (-(64 * a) ≤ 5 * u ∧ 5 * u ≤ 64 * a) → (-(48 * b) ≤ 5 * v ∧ 5 * v ≤ 48 * b) → rB a b u v = true := by
    intro p q
    apply in_ell ha hb (by omega) (by omega)
    have s1 := sq_le (p := 5 * u) (q := 64 * a) (by omega) p.2
    have s2 := sq_le (p := 5 * v) (q := 48 * b) (by omega) q.2
    have x1 : 64 * a * (64 * a) = 4096 * (a * a) := by have : 64 * a * (64 * a) = (64 * 64) * (a * a) := by simp only [Int.mul_assoc, Int.mul_left_comm, Int.mul_comm]
                                                       rw [this]; omega
    have x2 : 48 * b * (48 * b) = 2304 * (b * b) := by have : 48 * b * (48 * b) = (48 * 48) * (b * b) := by simp only [Int.mul_assoc, Int.mul_left_comm, Int.mul_comm]
                                                       rw [this]; omega
    have x3 : 5 * v * (5 * v) = 25 * (v * v) := by have : 5 * v * (5 * v) = (5 * 5) * (v * v) := by simp only [Int.mul_assoc, Int.mul_left_comm, Int.mul_comm]
                                                   rw [this]; omega
    have x4 : 5 * u * (5 * u) = 25 * (u * u) := by have : 5 * u * (5 * u) = (5 * 5) * (u * u) := by simp only [Int.mul_assoc, Int.mul_left_comm, Int.mul_comm]
                                                   rw [this]; omega
    have y1 := Int.mul_le_mul_of_nonneg_right (show 25 * (u * u) ≤ 4096 * (a * a) by omega) bb
    have y2 := Int.mul_le_mul_of_nonneg_right (show 25 * (v * v) ≤ 2304 * (b * b) by omega) aa
    have z1 : 4096 * (a * a) * (b * b) = 4096 * ((a * a) * (b * b)) := Int.mul_assoc _ _ _
    have z2 : 2304 * (b * b) * (a * a) = 2304 * ((a * a) * (b * b)) := by rw [Int.mul_assoc, Int.mul_comm (b * b)]
    have z3 : 25 * (v * v) * (a * a) = 25 * ((v * v) * (a * a)) := Int.mul_assoc _ _ _
    have z4 : 25 * (u * u) * (b * b) = 25 * ((u * u) * (b * b)) := Int.mul_assoc _ _ _
    omega
  unfold c1 c2 r1 r2
  rw [hu, hv]
  by_cases p1 : -(8 * a) ≤ u ∧ u ≤ 8 * a
  · have p2 : ¬ ((u < -(8 * a) ∨ 8 * a < u) ∧ -(64 * a) ≤ 5 * u ∧ 5 * u ≤ 64 * a) := by omega
    rw [if_pos p1, if_neg p2]
    by_cases q1 : -(96 * b) ≤ 7 * v ∧ 7 * v ≤ 96 * b
    · rw [if_pos q1, case1 p1 q1]; simp [b2i]
    · rw [if_neg q1]; simp; exact n0.1
  · rw [if_neg p1]
    by_cases p2 : (u < -(8 * a) ∨ 8 * a < u) ∧ -(64 * a) ≤ 5 * u ∧ 5 * u ≤ 64 * a
    · rw [if_pos p2]
      by_cases q2 : -(48 * b) ≤ 5 * v ∧ 5 * v ≤ 48 * b
      · rw [if_pos q2, case2 p2.2 q2]; simp [b2i]
      · rw [if_neg q2]; simp; exact n0.1
    · rw [if_neg p2]; simp; exact n0.1
def T1 (f : Int → Int → Int) (a : Nat) : Int := sumN (fun x => sumN (fun i => f a (16 * (x : Int) + i)) 16) a
theorem t_c1 : ∀ a : Nat, a < 25 → T1 c1 a = 8 * a := by decide +kernel
theorem t_c2 : ∀ a : Nat, a < 25 → 24 * (a : Int) - 5 ≤ 5 * T1 c2 a := by decide +kernel
theorem t_r1 : ∀ a : Nat, a < 25 → 96 * (a : Int) - 7 ≤ 7 * T1 r1 a := by decide +kernel
theorem t_r2 : ∀ a : Nat, a < 25 → 48 * (a : Int) - 5 ≤ 5 * T1 r2 a := by decide +kernel
end Go.Rect

set_option linter.unusedSimpArgs false
set_option linter.unusedVariables false
namespace Go.Rect
open Go.Eng
def rv (A B k : Nat) : Int := eF ⟨0, 0, (A : Int), (B : Int)⟩ ((k % A : Nat) : Int) ((k / A : Nat) : Int)
theorem samp_N (r : Rc) (x y : Int) : sampI r x y = sumN (fun j => sumN (fun i => b2i (rndB r (16 * x + i) (16 * y + j))) 16) 16 := by
  rw [samp_eq]; rfl
theorem samp_lo {A B : Nat} (hA : 0 < A) (hB : 0 < B) (x y : Int) : sumN (fun i => c1 A (16 * x + i)) 16 * sumN (fun j => r1 B (16 * y + j)) 16 + sumN (fun i => c2 A (16 * x + i)) 16 * sumN (fun j => r2 B (16 * y + j)) 16 ≤ sampI ⟨0, 0, (A : Int), (B : Int)⟩ x y := by
  rw [samp_N]
  have h1 : ∀ j : Nat, j < 16 → r1 B (16 * y + j) * sumN (fun i => c1 A (16 * x + i)) 16 + r2 B (16 * y + j) * sumN (fun i => c2 A (16 * x + i)) 16 ≤ sumN (fun i => b2i (rndB ⟨0, 0, (A : Int), (B : Int)⟩ (16 * x + i) (16 * y + j))) 16 := by
    intro j _
    have e : sumN (fun i => c1 A (16 * x + i) * r1 B (16 * y + j) + c2 A (16 * x + i) * r2 B (16 * y + j)) 16 = r1 B (16 * y + j) * sumN (fun i => c1 A (16 * x + i)) 16 + r2 B (16 * y + j) * sumN (fun i => c2 A (16 * x + i)) 16 := by
      rw [sumN_plus, sumN_mul (fun i : Nat => c1 A (16 * x + i)), sumN_mul (fun i : Nat => c2 A (16 * x + i)), Int.mul_comm, Int.mul_comm (sumN (fun i : Nat => c2 A (16 * x + i)) 16)]
    rw [← e]
    exact sumN_le fun i _ => in_1 (by omega) (by omega)
  have h2 := sumN_le (n := 16) h1
  rw [sumN_plus, sumN_mul (fun j : Nat => r1 B (16 * y + j)), sumN_mul (fun j : Nat => r2 B (16 * y + j))] at h2
  rw [Int.mul_comm (sumN (fun i : Nat => c1 A (16 * x + i)) 16), Int.mul_comm (sumN (fun i : Nat => c2 A (16 * x + i)) 16)]
  exact h2
theorem samp_tot {A B : Nat} (hA : 1 ≤ A ∧ A ≤ 24) (hB : 1 ≤ B ∧ B ≤ 24) : 129 * ((A : Int) * B) ≤ sumN (fun k => sampI ⟨0, 0, (A : Int), (B : Int)⟩ ((k % A : Nat) : Int) ((k / A : Nat) : Int)) (A * B) := by
  have h := sumN_le (n := A * B) (f := fun k => (fun x : Nat => sumN (fun i => c1 A (16 * (x : Int) + i)) 16) (k % A) * (fun y : Nat => sumN (fun j => r1 B (16 * (y : Int) + j)) 16) (k / A) + (fun x : Nat => sumN (fun i => c2 A (16 * (x : Int) + i)) 16) (k % A) * (fun y : Nat => sumN (fun j => r2 B (16 * (y : Int) + j)) 16) (k / A)) fun k _ => samp_lo (A := A) (B := B) (by omega) (by omega) ((k % A : Nat) : Int) ((k / A : Nat) : Int)
  rw [sumN_plus, sum_grid (fun x : Nat => sumN (fun i => c1 A (16 * (x : Int) + i)) 16) (fun y : Nat => sumN (fun j => r1 B (16 * (y : Int) + j)) 16) (by omega), sum_grid (fun x : Nat => sumN (fun i => c2 A (16 * (x : Int) + i)) 16) (fun y : Nat => sumN (fun j => r2 B (16 * (y : Int) + j)) 16) (by omega)] at h
  have q1 := t_c1 A (by omega); have q2 := t_c2 A (by omega); have q3 := t_r1 B (by omega); have q4 := t_r2 B (by omega)
  unfold T1 at q1 q2 q3 q4
  refine Int.le_trans ?_ h
  rw [q1]
  generalize sumN (fun x : Nat => sumN (fun i => c2 A (16 * (x : Int) + i)) 16) A = t2 at *
  generalize sumN (fun y : Nat => sumN (fun j => r1 B (16 * (y : Int) + j)) 16) B = u1 at *
  generalize sumN (fun y : Nat => sumN (fun j => r2 B (16 * (y : Int) + j)) 16) B = u2 at *
  have m1 := Int.mul_le_mul_of_nonneg_left q3 (show 0 ≤ 8 * (A : Int) by omega)
  have m2 := Int.mul_le_mul q2 q4 (show 0 ≤ 48 * (B : Int) - 5 by omega) (by omega)
  have e1 : 8 * (A : Int) * (96 * B - 7) = 768 * ((A : Int) * B) - 56 * A := by
    rw [Int.mul_sub, Int.mul_assoc, Int.mul_left_comm (A : Int) 96]; omega
  have e2 : 8 * (A : Int) * (7 * u1) = 7 * (8 * (A : Int) * u1) := by rw [Int.mul_left_comm]
  have e3 : 5 * t2 * (5 * u2) = 25 * (t2 * u2) := by
    have : 5 * t2 * (5 * u2) = (5 * 5) * (t2 * u2) := by simp only [Int.mul_assoc, Int.mul_left_comm, Int.mul_comm]
    rw [this]; omega
  have e4 : (24 * (A : Int) - 5) * (48 * B - 5) = 1152 * ((A : Int) * B) - 120 * A - 240 * B + 25 := by
    have : (24 * (A : Int)) * (48 * B) = (24 * 48) * ((A : Int) * B) := by simp only [Int.mul_assoc, Int.mul_left_comm, Int.mul_comm]
    rw [Int.sub_mul, Int.mul_sub, Int.mul_sub, this]; omega
  have k1 := Int.mul_le_mul_of_nonneg_left (show (1 : Int) ≤ B by omega) (show 0 ≤ (A : Int) by omega)
  have k2 := Int.mul_le_mul_of_nonneg_right (show (1 : Int) ≤ A by omega) (show 0 ≤ (B : Int) by omega)
  rw [e1, e2] at m1
  rw [e3, e4] at m2
  omega
theorem corner : ∀ A : Nat, A < 25 → ∀ B : Nat, B < 25 → 1 ≤ A → 1 ≤ B → rndB ⟨0, 0, (A : Int), (B : Int)⟩ 0 0 = false := by decide +kernel
theorem samp_bd (r : Rc) (x y : Int) : 0 ≤ sampI r x y ∧ sampI r x y ≤ 256 := by
  have := cnt2_bd (rndG r x y) 16 0 (by omega)
  unfold sampI; omega
theorem samp_0 {A B : Nat} (hA : 1 ≤ A ∧ A ≤ 24) (hB : 1 ≤ B ∧ B ≤ 24) : sampI ⟨0, 0, (A : Int), (B : Int)⟩ 0 0 ≤ 255 := by
  have hc := corner A (by omega) B (by omega) hA.1 hB.1
  rw [samp_N, show (16 : Nat) = 1 + 15 from rfl, sumN_add]
  have h1 : sumN (fun j => sumN (fun i => b2i (rndB ⟨0, 0, (A : Int), (B : Int)⟩ (16 * 0 + (i : Int)) (16 * 0 + (j : Int)))) (1 + 15)) 1 ≤ 15 := by
    rw [sumN_succ, sumN_0, sumN_add, sumN_succ, sumN_0]
    have e : rndB ⟨0, 0, (A : Int), (B : Int)⟩ (16 * 0 + ((0 : Nat) : Int)) (16 * 0 + ((0 : Nat) : Int)) = false := hc
    rw [e]
    have := sumN_le (n := 15) (f := fun i => b2i (rndB ⟨0, 0, (A : Int), (B : Int)⟩ (16 * 0 + ((1 + i : Nat) : Int)) (16 * 0 + ((0 : Nat) : Int)))) (g := fun _ => 1) fun i _ => (b2i_01 _).2
    rw [sumN_const] at this
    simp only [b2i] at this ⊢
    simp only [Bool.false_eq_true, if_false]
    omega
  have h2 : sumN (fun i : Nat => sumN (fun i1 : Nat => b2i (rndB ⟨0, 0, (A : Int), (B : Int)⟩ (16 * 0 + (i1 : Int)) (16 * 0 + ((1 + i : Nat) : Int)))) (1 + 15)) 15 ≤ 240 := by
    have := sumN_le (n := 15) (f := fun i : Nat => sumN (fun i1 : Nat => b2i (rndB ⟨0, 0, (A : Int), (B : Int)⟩ (16 * 0 + (i1 : Int)) (16 * 0 + ((1 + i : Nat) : Int)))) (1 + 15)) (g := fun _ => 16) fun j _ => by
      have := sumN_le (n := 1 + 15) (f := fun i : Nat => b2i (rndB ⟨0, 0, (A : Int), (B : Int)⟩ (16 * 0 + (i : Int)) (16 * 0 + ((1 + j : Nat) : Int)))) (g := fun _ => 1) fun i _ => (b2i_01 _).2
      rw [sumN_const] at this
      exact this
    rw [sumN_const] at this
    exact this
  omega
theorem rv_div {A B : Nat} (hA : 1 ≤ A ∧ A ≤ 24) (hB : 1 ≤ B ∧ B ≤ 24) (k : Nat) : rv A B k = divI (65535 * sampI ⟨0, 0, (A : Int), (B : Int)⟩ ((k % A : Nat) : Int) ((k / A : Nat) : Int)) 256 := by
  have : emptyB (⟨0, 0, (A : Int), (B : Int)⟩ : Rc) = false := empty_spec.2 (by simp only; omega)
  rw [rv, eF, this]; rfl
theorem rv_bd {A B : Nat} (hA : 1 ≤ A ∧ A ≤ 24) (hB : 1 ≤ B ∧ B ≤ 24) (k : Nat) : 0 ≤ rv A B k ∧ rv A B k ≤ 65535 ∧ 131070 * sampI ⟨0, 0, (A : Int), (B : Int)⟩ ((k % A : Nat) : Int) ((k / A : Nat) : Int) - 255 ≤ 512 * rv A B k := by
  rw [rv_div hA hB]
  have := samp_bd ⟨0, 0, (A : Int), (B : Int)⟩ ((k % A : Nat) : Int) ((k / A : Nat) : Int)
  unfold divI
  omega
theorem rv_0 {A B : Nat} (hA : 1 ≤ A ∧ A ≤ 24) (hB : 1 ≤ B ∧ B ≤ 24) : rv A B 0 ≤ 65534 := by
  rw [rv_div hA hB]
  have h1 := samp_0 hA hB
  have e : sampI ⟨0, 0, (A : Int), (B : Int)⟩ ((0 % A : Nat) : Int) ((0 / A : Nat) : Int) = sampI ⟨0, 0, (A : Int), (B : Int)⟩ 0 0 := by simp
  rw [e]
  have := samp_bd ⟨0, 0, (A : Int), (B : Int)⟩ 0 0
  unfold divI
  omega
theorem rv_part {A B : Nat} (hA : 1 ≤ A ∧ A ≤ 24) (hB : 1 ≤ B ∧ B ≤ 24) (k : Nat) : 0 ≤ sumN (rv A B) k ∧ sumN (rv A B) k ≤ 65535 * k := by
  have h1 := sumN_le (n := k) (f := fun _ => 0) (g := rv A B) fun i _ => (rv_bd hA hB i).1
  have h2 := sumN_le (n := k) (f := rv A B) (g := fun _ => 65535) fun i _ => (rv_bd hA hB i).2.1
  rw [sumN_const] at h1 h2
  omega
theorem rv_sum {A B : Nat} (hA : 1 ≤ A ∧ A ≤ 24) (hB : 1 ≤ B ∧ B ≤ 24) : sumN (rv A B) (A * B) < ((A : Int) * B) * 65535 ∧ ((A : Int) * B) * 65535 < 2 * sumN (rv A B) (A * B) ∧ 1 ≤ (A : Int) * B ∧ (A : Int) * B ≤ 576 ∧ ((A * B : Nat) : Int) = (A : Int) * B := by
  have hp : 1 ≤ A * B := Nat.mul_le_mul hA.1 hB.1
  have hq : A * B ≤ 24 * 24 := Nat.mul_le_mul hA.2 hB.2
  have ec : ((A * B : Nat) : Int) = (A : Int) * B := Int.natCast_mul A B
  have h1 : sumN (rv A B) (A * B) ≤ 65535 * ((A * B : Nat) : Int) - 1 := by
    have e : A * B = 1 + (A * B - 1) := by omega
    rw [e, sumN_add, sumN_succ, sumN_0]
    have h2 := sumN_le (n := A * B - 1) (f := fun i => rv A B (1 + i)) (g := fun _ => 65535) fun i _ => (rv_bd hA hB (1 + i)).2.1
    rw [sumN_const] at h2
    have := rv_0 hA hB
    omega
  have h3 := samp_tot hA hB
  have h4 : 131070 * sumN (fun k => sampI ⟨0, 0, (A : Int), (B : Int)⟩ ((k % A : Nat) : Int) ((k / A : Nat) : Int)) (A * B) - 255 * ((A * B : Nat) : Int) ≤ 512 * sumN (rv A B) (A * B) := by
    have h5 := sumN_le (n := A * B) (f := fun k => sampI ⟨0, 0, (A : Int), (B : Int)⟩ ((k % A : Nat) : Int) ((k / A : Nat) : Int) * 131070 + (-255)) (g := fun k => rv A B k * 512) fun k _ => by have := (rv_bd hA hB k).2.2; omega
    rw [sumN_plus, sumN_mul (fun k : Nat => sampI ⟨0, 0, (A : Int), (B : Int)⟩ ((k % A : Nat) : Int) ((k / A : Nat) : Int)), sumN_const, sumN_mul (rv A B)] at h5
    omega
  omega
theorem ro_m {A B : Nat} (hA : 1 ≤ A ∧ A ≤ 24) (hB : 1 ≤ B ∧ B ≤ 24) : ellE A B ⟨0, 0, (A : Int), (B : Int)⟩ = 0 ∧ ellR A B ⟨0, 0, (A : Int), (B : Int)⟩ = ⟨A, B, tab (A * B) (rv A B)⟩ := by
  have hs : SzOk (A : Int) (B : Int) := by unfold SzOk; omega
  have h := el3 (r := ⟨0, 0, (A : Int), (B : Int)⟩) hs ⟨⟨valid_spec.2 (by simp only; omega), by simp only; omega⟩, by simp only; omega⟩
  refine ⟨h.2, ?_⟩
  rw [h.1]; rfl
theorem ro_k {A B k : Nat} (hA : 1 ≤ A ∧ A ≤ 24) (hB : 1 ≤ B ∧ B ≤ 24) (hk : k < A * B) : k % A < A ∧ k / A < B ∧
    (∃ i : Nat, ((k / A : Nat) : Int) * A + A - 1 - ((k % A : Nat) : Int) = i ∧ i < A * B ∧ rv A B i = rv A B k ∧ 0 ≤ ((k / A : Nat) : Int) * A ∧ ((k / A : Nat) : Int) * A ≤ 576) ∧
    (∃ i : Nat, ((B : Int) - 1 - ((k / A : Nat) : Int)) * A + ((k % A : Nat) : Int) = i ∧ i < A * B ∧ rv A B i = rv A B k ∧ 0 ≤ ((B : Int) - 1 - ((k / A : Nat) : Int)) * A ∧ ((B : Int) - 1 - ((k / A : Nat) : Int)) * A ≤ 576) := by
  have hq : A * B ≤ 24 * 24 := Nat.mul_le_mul hA.2 hB.2
  have p1 : k % A < A := Nat.mod_lt _ (by omega)
  have p2 : k / A < B := by rw [Nat.div_lt_iff_lt_mul (by omega), Nat.mul_comm]; exact hk
  refine ⟨p1, p2, ?_, ?_⟩
  · have hi := yx_lt (w := A) (h := B) (y := k / A) (x := A - 1 - k % A) p2 (by omega)
    have e := (kdm (w := A) (y := k / A) (x := A - 1 - k % A) (by omega) (k / A * A + (A - 1 - k % A))).1 rfl
    refine ⟨k / A * A + (A - 1 - k % A), ?_, hi, ?_, ?_, ?_⟩
    · rw [Int.natCast_add, Int.natCast_mul]
      generalize ((k / A : Nat) : Int) * (A : Int) = z
      generalize k % A = p at *
      omega
    · rw [rv, rv, e.1, e.2, ← eF_x]
      congr 1
      generalize k % A = p at *
      omega
    · rw [← Int.natCast_mul]; exact Int.natCast_nonneg _
    · rw [← Int.natCast_mul]
      generalize k / A * A = z at *
      omega
  · have hi := yx_lt (w := A) (h := B) (y := B - 1 - k / A) (x := k % A) (by generalize k / A = z; omega) p1
    have e := (kdm (w := A) (y := B - 1 - k / A) (x := k % A) p1 ((B - 1 - k / A) * A + k % A)).1 rfl
    have ez : (B : Int) - 1 - ((k / A : Nat) : Int) = ((B - 1 - k / A : Nat) : Int) := by
      generalize k / A = z at *
      omega
    rw [ez]
    refine ⟨(B - 1 - k / A) * A + k % A, ?_, hi, ?_, ?_, ?_⟩
    · rw [Int.natCast_add, Int.natCast_mul]
    · rw [rv, rv, e.1, e.2, ← ez, eF_y]
    · rw [← Int.natCast_mul]; exact Int.natCast_nonneg _
    · rw [← Int.natCast_mul]
      generalize (B - 1 - k / A) * A = z at *
      omega
end Go.Rect

