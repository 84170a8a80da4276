import Derived.Test.YtnbeigcjhpldmaaGreatLC
set_option linter.unusedSimpArgs false
set_option linter.unusedVariables false
set_option linter.unusedSimpArgs false
set_option linter.unusedVariables false
namespace Go.Rect
open Go.Eng
def Z0 (w h : Int) : Prop := 0 ≤ w ∧ w ≤ 256 ∧ 0 ≤ h ∧ h ≤ 256
def fil (n : Nat) (f : Nat → Int) (k : Nat) : List Int := tab n fun i => if i < k then f i else 0
def rcK (w h : Int) (p : Rc) (Y X : Int) : List Int := tab (nn w h) fun k =>
  if hasB p ⟨((k % w.toNat : Nat) : Int), ((k / w.toNat : Nat) : Int)⟩ = true ∧ (((k / w.toNat : Nat) : Int) < Y ∨ ((k / w.toNat : Nat) : Int) = Y ∧ ((k % w.toNat : Nat) : Int) < X) then 65535 else 0
end Go.Rect

set_option linter.unusedSimpArgs false
set_option linter.unusedVariables false
namespace Go.Rect
open Go.Eng
theorem unPtV (x y : Int) : unPt [.i x, .i y] = ⟨x, y⟩ := rfl
def filP (n : Nat) (f g : Nat → Px) (k : Nat) : List Px := tabP n fun i => if i < k then f i else g i
end Go.Rect

set_option linter.unusedSimpArgs false
set_option linter.unusedVariables false
namespace Go.Rect
open Go.Eng
theorem unRcV (x y w h : Int) : unRc [.i x, .i y, .i w, .i h] = ⟨x, y, w, h⟩ := rfl
theorem rcEta (r : Rc) : (⟨r.x, r.y, r.w, r.h⟩ : Rc) = r := rfl
theorem ptEta (r : Pt) : (⟨r.x, r.y⟩ : Pt) = r := rfl
def ElOk (r : Rc) : Prop := -1048576 ≤ r.x ∧ r.x ≤ 1048576 ∧ 0 < r.w ∧ r.w ≤ 1024 ∧ -1048576 ≤ r.y ∧ r.y ≤ 1048576 ∧ 0 < r.h ∧ r.h ≤ 1024 ∧ r.x + r.w ≤ 1048576 ∧ r.y + r.h ≤ 1048576
end Go.Rect

set_option linter.unusedSimpArgs false
set_option linter.unusedVariables false
namespace Go.Rect
open Go.Eng
def rndE (r : Rc) (x y : Int) (j i : Nat) : Bool := !emptyB r && rndG r x y j i
def orM (a b : Mk) : Mk := if a.w = 0 then grid b.w b.h (fun _ _ => 65535) else a
def cm1 (p q how : Int) : Int := if how = 1 then max p q else q
def cm2 (p q how : Int) : Int := if how = 2 then min p (65535 - q) else cm1 p q how
def cm3 (p q how : Int) : Int := if how = 3 then min p q else cm2 p q how
end Go.Rect

set_option linter.unusedSimpArgs false
set_option linter.unusedVariables false
namespace Go.Rect
open Go.Eng
theorem p2 : ∀ k : Nat, k < 29 → (1 : Int) ≤ 2 ^ k ∧ (2 : Int) ^ k ≤ 268435456 ∧ (2 : Int) ^ k * 2 = 2 ^ (k + 1) := by decide +kernel
def gK (m : Mk) (x y n j i : Int) : Int := growK m x y n n.natAbs (j + n.natAbs).toNat (i + n.natAbs).toNat
def MbOk (m : Mk) (b : B4) : Prop := b = mb0 m ∨ (0 ≤ b.x0 ∧ b.x0 ≤ b.x1 ∧ b.x1 < m.w ∧ 0 ≤ b.y0 ∧ b.y0 ≤ b.y1 ∧ b.y1 < m.h)
end Go.Rect

set_option linter.unusedSimpArgs false
set_option linter.unusedVariables false
namespace Go.Rect
open Go.Eng
end Go.Rect

set_option linter.unusedSimpArgs false
set_option linter.unusedVariables false
namespace Go.Rect
open Go.Eng
def mxG (a b : Im) (m : Mk) (k : Nat) : Px := if orU m k = 0 then a.p.getD k zP else mixP (a.p.getD k zP) (b.p.getD k zP) (orU m k)
end Go.Rect

