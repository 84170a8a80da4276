import Derived.Test.YtdillkdhpalgcaaGreatLH
set_option linter.unusedSimpArgs false
set_option linter.unusedVariables false
set_option linter.unusedSimpArgs false
set_option linter.unusedVariables false
namespace Go.Rect
open Go.Eng
section
variable {i : Im} {k : Int} {ps : List Int} {out : Rc}
structure PtH (i : Im) (k : Int) (ps : List Int) (out : Rc) : Prop where
  hi : ichkE i = 0
  hf : fchkE k ps = 0
  hv : validB out = true
  he : emptyB out = false
  hw : withinB out (allR i) = true
end
end Go.Rect

set_option linter.unusedSimpArgs false
set_option linter.unusedVariables false
namespace Go.Rect
open Go.Eng
def plP (k : Int) (p : Px) : Px := if k = 5 then ⟨0, 0, 0, p.a⟩ else if k = 6 then ⟨32768, 32768, 32768, p.a⟩ else p
structure UnS (s : Sm) (p : Px) : Prop where
  a : s.a = s.w * p.a
  r : s.r = s.a * p.r
  g : s.g = s.a * p.g
  b : s.b = s.a * p.b
section
variable {v : Vw} {wt : List Int} {x y : Int} {p : Px}
def UniV (v : Vw) (p : Px) : Prop := ∀ x y, VIn v x y → pixF v x y = p
end
section
variable {w h k : Int} {p : Px} {ps : List Int}
structure UnH (w h : Int) (p : Px) (k : Int) (ps : List Int) : Prop where
  sz : isz w h = true
  vp : validP p = true
  pa : ¬ p.a = 0
  hf : fchkE k ps = 0
end
def p5 (k : Int) (p : Px) : Px := if k = 5 then ⟨0, 0, 0, p.a⟩ else p
end Go.Rect

set_option linter.unusedSimpArgs false
set_option linter.unusedVariables false
namespace Go.Rect
open Go.Eng
def plQ (k : Int) (p : Px) : Px := if k = 5 then ⟨0, 0, 0, p.a⟩ else p
end Go.Rect

