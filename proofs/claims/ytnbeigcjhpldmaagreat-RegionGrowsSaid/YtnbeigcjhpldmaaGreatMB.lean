import Derived.Test.YtnbeigcjhpldmaaGreatMA
set_option linter.unusedSimpArgs false
set_option linter.unusedVariables false
set_option linter.unusedSimpArgs false
set_option linter.unusedVariables false
namespace Go.Rect
open Go.Eng
theorem growC_pt {r : Rc} {n : Int} (h : emptyB r = false) (h0 : 0 ≤ n) (h1 : n ≤ 1048576) :
    emptyB (growR r n) = false ∧ ∀ x y, hasI (growR r n) x y ↔ (-1048576 ≤ x ∧ x < 1048576 ∧ -1048576 ≤ y ∧ y < 1048576) ∧ (r.x - n ≤ x ∧ x < r.x + r.w + n) ∧ (r.y - n ≤ y ∧ y < r.y + r.h + n) := by
  have hr := empty_spec.1 h
  have hl : lim4 n = n := by unfold lim4; omega
  rw [growR, h, hl]
  simp only [Bool.false_eq_true, if_false]
  rw [betweenR, if_neg (by omega), empty_spec]
  refine ⟨by simp only; omega, fun x y => ?_⟩
  unfold hasI
  simp only
  omega
theorem grow_wd {l : List Rc} {n : Int} (hw : Wd l) (h0 : 0 ≤ n) (h1 : n ≤ 1048576) : Wd (growL n l) := fun q hq => by
  obtain ⟨r, hr, rfl⟩ := List.mem_map.1 hq
  exact (growC_pt (hw r hr) h0 h1).1
theorem growL_ln (n : Int) (l : List Rc) : (growL n l).length = l.length := by simp [growL]
def growC (n : Int) (a : List Rc) : List Rc := canoF orB (growL n (els a)) []
end Go.Rect

