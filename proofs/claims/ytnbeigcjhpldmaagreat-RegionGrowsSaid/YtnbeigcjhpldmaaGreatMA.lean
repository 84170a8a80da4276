import Derived.Test.YtnbeigcjhpldmaaGreatLG
set_option linter.unusedSimpArgs false
set_option linter.unusedVariables false
set_option linter.unusedSimpArgs false
set_option linter.unusedVariables false
namespace Go.Rect
open Go.Eng
def cntZ (f : Int → Bool) : Nat → Int
  | 0 => 0
  | n + 1 => cntZ f n + (if f (-1048576 + n) then 1 else 0)
def sumZ (g : Int → Int) : Nat → Int
  | 0 => 0
  | n + 1 => sumZ g n + g (-1048576 + n)
def A2 (N : Nat) (S : Int → Int → Bool) : Int := sumZ (fun y => cntZ (fun x => S x y) N) N
def arS : List Rc → Int
  | [] => 0
  | r :: l => r.w * r.h + arS l
def Disj (r q : Rc) : Prop := ∀ x y, ¬ (hasI r x y ∧ hasI q x y)
theorem wrap_add (a b : Int) : IntKind.i64.wrap (IntKind.i64.wrap a + b) = IntKind.i64.wrap (a + b) := by
  simp only [IntKind.wrap_i64]; omega
theorem arS_app (l m : List Rc) : arS (l ++ m) = arS l + arS m := by
  induction l with
  | nil => simp [arS]
  | cons r l ih => simp only [List.cons_append, arS, ih]; omega
theorem arK_w {l : List Rc} (hw : Wd l) : ∀ k, k ≤ l.length → arK l k = IntKind.i64.wrap (arS (l.take k))
  | 0, _ => by simp only [arK, List.take_zero, arS]; rw [w64 (by omega) (by omega)]
  | k + 1, h => by
    have he : emptyB (l.getD k zR) = false := hw _ (gD_mem h)
    rw [arK, arK_w hw k (by omega), areaI, he, take_s zR h, arS_app]
    simp only [Bool.false_eq_true, if_false, arS, Int.add_zero]
    exact wrap_add _ _
theorem of_in (a : List Rc) (x y : Int) : inLb (canoF orB a []) x y = inLb (els a) x y := by
  rw [show orB = kpH 0 from rfl, cano_in, kpU_0]
  simp [orB, els_nil, inLb]
section
variable {a b : List Rc}
end
end Go.Rect

