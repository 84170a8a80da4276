import Derived.Test.YtnbeigcjhpldmaaGreatMF
set_option linter.unusedSimpArgs false
set_option linter.unusedVariables false
set_option linter.unusedSimpArgs false
set_option linter.unusedVariables false
namespace Go.Rect
open Go.Eng
theorem lstY_len {rs : List Rw} {y y' : Int} : ∀ n : Nat, (lstY rs y n).length = n * (lstR y' rs).length
  | 0 => by simp [lstY]
  | n + 1 => by
    have h : ∀ (l : List Rw) (u v : Int), (lstR u l).length = (lstR v l).length := fun l => by
      induction l with
      | nil => intros; rfl
      | cons p l ih => intro u v; simp only [lstR, List.length_append, rowL_len, ih u v]
    have h2 := h rs (y + n) y'
    rw [lstY, List.length_append, lstY_len (y' := y') n, Nat.succ_mul, h2]
theorem ar_rs {y h : Int} : ∀ {rs : List Rw}, Mx rs → arS (rs.map (rnR y h)) = h * ((lstR y rs).length : Int)
  | [], _ => by simp [arS, lstR]
  | p :: rs, hm => by
    have := hm.1
    have ih := ar_rs (y := y) (h := h) hm.2.2
    simp only [List.map_cons, arS, lstR, List.length_append, rowL_len, ih, rnR]
    rw [show (((p.hi - p.lo).toNat + (lstR y rs).length : Nat) : Int) = (p.hi - p.lo) + ((lstR y rs).length : Int) from by omega, Int.mul_add, Int.mul_comm (p.hi - p.lo) h]
theorem ar_lst : ∀ {st : List Bd}, CanB st → arS (flatB st) = ((lstA st).length : Int)
  | [], _ => rfl
  | b :: l, hc => by
    have hh := hc.1.2.2
    rw [show flatB (b :: l) = b.rs.map (rnR b.y b.h) ++ flatB l from rfl, arS_app, ar_rs hc.1.2.1, ar_lst hc.2.2, lstA, List.length_append, lstY_len (y' := b.y)]
    rw [Int.natCast_add, Int.natCast_mul, show ((b.h.toNat : Nat) : Int) = b.h from by omega]
theorem ar_tl (a : List Rc) : arS (tlC a) = ((lstA (tlS a)).length : Int) := by rw [← tlS_flat, ar_lst (tlS_can a)]
end Go.Rect

