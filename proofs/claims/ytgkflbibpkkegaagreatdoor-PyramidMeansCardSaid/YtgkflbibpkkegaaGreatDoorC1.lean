import Derived.Test.YtgkflbibpkkegaaGreatDoorC0
set_option linter.unusedSimpArgs false
set_option linter.unusedVariables false
namespace Go.S35
open Go.RowKit Go.Proofs Go.Eng Go.Rect
theorem clone0_fn (a : Option Addr) (cap : Nat) : Eng.Fn Tryz.prog 39 [.v (.slice a 0 cap)] (.own 44 4 []) := by
  cases a with
  | none => exact cloneB_fn cap
  | some p => exact cloneC_fn p cap
theorem clone_fn (l : List (List D)) (hl : l.length ≤ 65536) : Eng.Fn Tryz.prog 39 [.sl 4 l] (.own 44 4 l) := by
  cases l with
  | nil => exact Eng.Fn.sl0 clone0_fn
  | cons x l => exact cloneA_fn (x :: l) (by simp) hl
end Go.S35

