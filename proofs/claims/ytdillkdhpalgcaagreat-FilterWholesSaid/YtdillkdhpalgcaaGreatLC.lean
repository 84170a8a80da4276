import Derived.Test.YtdillkdhpalgcaaGreatLB
import Derived.Test.YtdillkdhpalgcaaGreatED
set_option linter.unusedSimpArgs false
set_option linter.unusedVariables false
set_option linter.unusedSimpArgs false
set_option linter.unusedVariables false
namespace Go.Rect
open Go.Eng
def mvP (dx dy : Int) (p : Pt) : Pt := ⟨p.x + 16 * dx, p.y + 16 * dy⟩
def mvE (dx dy : Int) (s : Ed) : Ed := ⟨mvP dx dy s.a, mvP dx dy s.b⟩
def revE (s : Ed) : Ed := ⟨s.b, s.a⟩
def pth (F : Pt → Pt → Int) : List Pt → Int
  | a :: b :: l => F a b + pth F (b :: l)
  | _ => 0
def cyc (F : Pt → Pt → Int) (p : List Pt) : Int := ((List.range p.length).map fun i => F (p.getD i ⟨0, 0⟩) (nxt p i)).sum
end Go.Rect

set_option linter.unusedSimpArgs false
set_option linter.unusedVariables false
namespace Go.Rect
open Go.Eng
theorem nn_mul {w h : Int} (hw : 0 ≤ w) (hh : 0 ≤ h) : ((w.toNat * h.toNat : Nat) : Int) = w * h := by
  rw [Int.natCast_mul, Int.toNat_of_nonneg hw, Int.toNat_of_nonneg hh]
theorem yx_lt {w h y x : Nat} (hy : y < h) (hx : x < w) : y * w + x < w * h := by
  have : (y + 1) * w ≤ h * w := Nat.mul_le_mul_right w hy
  rw [Nat.add_mul, Nat.mul_comm h] at this; omega
def smallP (p : Pt) : Bool := decide (-1048576 ≤ p.x) && decide (p.x ≤ 1048576) && decide (-1048576 ≤ p.y) && decide (p.y ≤ 1048576)
def crF (x y : Int) (a b : Pt) : Int := crossI ⟨a, b⟩ x y
def rotP : List Pt → List Pt
  | [] => []
  | a :: l => l ++ [a]
end Go.Rect

set_option linter.unusedSimpArgs false
set_option linter.unusedVariables false
namespace Go.Rect
open Go.Eng
def sqIn (a b c d x y : Int) : Bool := (decide (min b d ≤ y) && decide (y < max b d)) && (decide (min a c ≤ x) && decide (x < max a c))
def spn (lo hi x : Int) (n : Nat) : Int := max 0 (min hi (x + n) - max lo x)
end Go.Rect

set_option linter.unusedSimpArgs false
set_option linter.unusedVariables false
namespace Go.Eng
open Go.RowKit
end Go.Eng
namespace Go.Rect
open Go.Eng
def MQ (p : List Pt) (dx dy : Int) (i : Nat) : List Pt := (p.take i).map (mvP dx dy)
def MV (ps : List (List Pt)) (dx dy : Int) (j : Nat) : List (List Pt) := (ps.take j).map fun p => p.map (mvP dx dy)
def at0 (l : Nat) (n : Int) : Nat := n.toNat % l
def cutB (p : List Pt) (t : Nat) : List Pt := p.drop t ++ [p.getD 0 ⟨0, 0⟩]
def RQ (p : List Pt) (i : Nat) : List Pt := p.reverse.take i
def SQ (p : List Pt) (i : Nat) : List Pt := (rotP p).take i
def RV' (ps : List (List Pt)) (j : Nat) : List (List Pt) := (ps.take j).map List.reverse
def SV (ps : List (List Pt)) (j : Nat) : List (List Pt) := (ps.take j).map rotP
end Go.Rect

