import Derived.Test.YtgkflbibpkkegaaGreatDoorLE
set_option linter.unusedSimpArgs false
set_option linter.unusedVariables false
set_option linter.unusedSimpArgs false
set_option linter.unusedVariables false
namespace Go.Rect
open Go.Eng
def rvC (i : Im) (o : Pt) (bd : Rc) : List D := [.i i.w, .i i.h, .sl 4 (i.p.map pxC), .i o.x, .i o.y, .i bd.x, .i bd.y, .i bd.w, .i bd.h]
def rvD (i : Im) (o : Pt) (bd : Rc) : D := .agg (rvC i o bd)
def rvV (l : List D) (k : Int) (ps : List Int) (r : Int) : Vw := match l with
  | [.i w, .i h, .sl _ p, .i ox, .i oy, .i bx, .i by', .i bw, .i bh] => ⟨⟨w, h, p.map unPx⟩, ⟨ox, oy⟩, ⟨bx, by', bw, bh⟩, k, ps, r⟩
  | _ => ⟨⟨0, 0, []⟩, ⟨0, 0⟩, ⟨0, 0, 0, 0⟩, k, ps, r⟩
def rsC (s : Sm) : List D := [.i s.w, .i s.a, .i s.r, .i s.g, .i s.b]
def rsD (s : Sm) : D := .agg (rsC s)
def unRs : List D → Sm
  | [.i w, .i a, .i r, .i g, .i b] => ⟨r, g, b, a, w⟩
  | _ => ⟨0, 0, 0, 0, 0⟩
def rnkP (v : Vw) (x y : Int) (pl : Int) : Px := ⟨(sortL (winS v x y 0)).getD pl.toNat 0, (sortL (winS v x y 1)).getD pl.toNat 0, (sortL (winS v x y 2)).getD pl.toNat 0, (sortL (winS v x y 3)).getD pl.toNat 0⟩
theorem dv3w {a b : Int} (h : 0 ≤ b) (h0 : ¬ b = 0) (h4 : b ≤ 70368744177664) (q : -2305843009213693952 ≤ a / b ∧ a / b ≤ 2305843009213693952 ∧ 0 ≤ a - b * (a / b) ∧ a - b * (a / b) < b ∧ -2305913377957871616 ≤ b * (a / b) ∧ b * (a / b) ≤ 2305913377957871616)
    (hc : IntKind.u64.wrap (absU b - absU (a - b * (a / b))) ≤ absU (a - b * (a / b))) : IntKind.i64.wrap (a / b + 1) = divI a b := by
  rw [absU_bd (by omega), absU_bd (by omega), u64 (by omega) (by omega)] at hc
  rw [w64 (by omega) (by omega)]
  rcases div_cases (a := a) (b := b) (by omega) with ⟨_, e⟩ | ⟨e, _⟩ <;> omega
theorem dv4w {a b : Int} (h : 0 ≤ b) (h0 : ¬ b = 0) (h4 : b ≤ 70368744177664) (q : -2305843009213693952 ≤ a / b ∧ a / b ≤ 2305843009213693952 ∧ 0 ≤ a - b * (a / b) ∧ a - b * (a / b) < b ∧ -2305913377957871616 ≤ b * (a / b) ∧ b * (a / b) ≤ 2305913377957871616)
    (hc : absU (a - b * (a / b)) < IntKind.u64.wrap (absU b - absU (a - b * (a / b)))) : a / b = divI a b := by
  rw [absU_bd (by omega), absU_bd (by omega), u64 (by omega) (by omega)] at hc
  rcases div_cases (a := a) (b := b) (by omega) with ⟨e, _⟩ | ⟨_, e⟩ <;> omega
def srtT (l : List Int) (a : Nat) : Prop := ∀ p q, p < q → q < a → l.getD p 0 ≤ l.getD q 0
def srtI (l : List Int) (a b : Nat) : Prop := ∀ p q, p < q → q ≤ a → q ≠ b → l.getD p 0 ≤ l.getD q 0
def swpL (l : List Int) (b : Nat) : List Int := (l.set b (l.getD (b - 1) 0)).set (b - 1) (l.getD b 0)
def WnH (v : Vw) (x y : Int) : Prop := (0 ≤ v.rad ∧ v.rad ≤ 16) ∧ (-16777216 ≤ x ∧ x ≤ 16777216 ∧ -16777216 ≤ y ∧ y ≤ 16777216) ∧ ∀ i j : Int, -v.rad ≤ i → i ≤ v.rad → -v.rad ≤ j → j ≤ v.rad → VIn v (x + i) (y + j)
end Go.Rect

set_option linter.unusedSimpArgs false
set_option linter.unusedVariables false
namespace Go.Rect
open Go.Eng
def sgnI (x y : Int) (n : Bool) : Int := if n then 0 else if 0 < x ∨ 9223372036854775807 < y then 9223372036854775807 else y
def atP (m : Im) (x y : Int) : Px := if ichkE m = 0 then pickP m x y else zP
theorem at_0 {m : Im} {x y : Int} (hc : ¬ ichkE m = 0) : zP = atP m x y := by rw [atP, if_neg hc]
theorem at_1 {m : Im} {x y : Int} (hc : ichkE m = 0) : pickP m x y = atP m x y := by rw [atP, if_pos hc]
theorem at_i {m : Im} (hc : ichkE m = 0) (x y : Int) : atP m x y = pickP m x y := by rw [atP, if_pos hc]
end Go.Rect

set_option linter.unusedSimpArgs false
set_option linter.unusedVariables false
namespace Go.Rect
open Go.Eng
end Go.Rect

set_option linter.unusedSimpArgs false
set_option linter.unusedVariables false
namespace Go.Rect
open Go.Eng
section
variable {i : Im} {o : Pt} {bd : Rc} {x y k r : Int} {ps : List Int} {wt : List Int}
end
end Go.Rect
namespace Go.Rect
end Go.Rect

