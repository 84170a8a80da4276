import Derived.Test.YtgkflbibpkkegaaGreatDoorLA
set_option linter.unusedSimpArgs false
set_option linter.unusedVariables false
set_option linter.unusedSimpArgs false
set_option linter.unusedVariables false
namespace Go.Rect
open Go.Eng
structure B4 where
  x0 : Int
  y0 : Int
  x1 : Int
  y1 : Int
def b0 : B4 := ⟨1048577, 1048577, -1048577, -1048577⟩
def bstep (b : B4) (p : Pt) : B4 := ⟨min b.x0 (p.x / 16), min b.y0 (p.y / 16), max b.x1 (p.x / 16), max b.y1 (p.y / 16)⟩
def bAll (l : List Pt) : B4 := l.foldl bstep b0
def seenP (ps : List (List Pt)) (j i : Nat) : List Pt := (ps.take j).flatten ++ (ps.getD j []).take i
def bK (ps : List (List Pt)) (j i : Nat) : B4 := bAll (seenP ps j i)
def boxB (b : B4) : Rc := if min b.x1 1048575 < b.x0 ∨ min b.y1 1048575 < b.y0 then zR else ⟨b.x0, b.y0, min b.x1 1048575 - b.x0 + 1, min b.y1 1048575 - b.y0 + 1⟩
def boxR (ps : List (List Pt)) : Rc := if checkE ps 0 = 0 then boxB (bAll ps.flatten) else zR
def rb (l : List Pt) : B4 := if l = [] then ⟨0, 0, 0, 0⟩ else bAll l
def rcut (l : List Pt) (p : Pt) : B4 := if l = [] then ⟨p.x / 16, p.y / 16, p.x / 16, p.y / 16⟩ else bAll l
end Go.Rect

set_option linter.unusedSimpArgs false
set_option linter.unusedVariables false
namespace Go.Rect
open Go.Eng
structure Ed where
  a : Pt
  b : Pt
  deriving DecidableEq, Inhabited
def zE : Ed := ⟨⟨0, 0⟩, ⟨0, 0⟩⟩
def edC (s : Ed) : List D := [.i s.a.x, .i s.a.y, .i s.b.x, .i s.b.y]
def edD (s : Ed) : D := .agg (edC s)
def unEd : List D → Ed
  | [.i x, .i y, .i z, .i w] => ⟨⟨x, y⟩, ⟨z, w⟩⟩
  | _ => zE
def edgesOf (p : List Pt) : List Ed := (List.range p.length).map fun i => ⟨p.getD i ⟨0, 0⟩, nxt p i⟩
def allE (ps : List (List Pt)) : List Ed := ps.flatMap edgesOf
def keepE (y0 y1 : Int) (s : Ed) : Bool := !(s.a.y == s.b.y) && decide (min s.a.y s.b.y < y1) && decide (y0 < max s.a.y s.b.y)
def edgesL (ps : List (List Pt)) (y0 y1 : Int) : List Ed := (allE ps).filter (keepE y0 y1)
def crossI (s : Ed) (x y : Int) : Int :=
  if s.b.y < s.a.y then (if y < s.b.y ∨ s.a.y ≤ y then 0 else if (2 * x + 1) * (s.a.y - s.b.y) < 2 * s.b.x * (s.a.y - s.b.y) + (2 * y + 1 - 2 * s.b.y) * (s.a.x - s.b.x) then -1 else 0)
  else (if y < s.a.y ∨ s.b.y ≤ y then 0 else if (2 * x + 1) * (s.b.y - s.a.y) < 2 * s.a.x * (s.b.y - s.a.y) + (2 * y + 1 - 2 * s.a.y) * (s.b.x - s.a.x) then 1 else 0)
def befN (s : Ed) (y : Int) : Int := 2 * (s.b.y - s.a.y) * s.a.x + (2 * y + 1 - 2 * s.a.y) * (s.b.x - s.a.x) - (s.b.y - s.a.y)
def befI (s : Ed) (y : Int) : Int := -floorI (-befN s y) (2 * (s.b.y - s.a.y))
def onRow (s : Ed) (y : Int) : Bool := !(decide (y < min s.a.y s.b.y) || decide (max s.a.y s.b.y ≤ y))
def sgn (s : Ed) : Int := if s.b.y < s.a.y then -1 else 1
def insN (ps : List (List Pt)) (x y : Int) : Int := ((allE ps).map fun s => crossI s x y).sum
def insB (rule n : Int) : Bool := if rule = 1 then !(n.tmod 2 == 0) else !(n == 0)
def b2i (b : Bool) : Int := if b then 1 else 0
def rowC (ps : List (List Pt)) (rule x y : Int) (n : Nat) : Int := ((List.range n).map fun (i : Nat) => b2i (insB rule (insN ps (x + i) y))).sum
def cntC (ps : List (List Pt)) (rule x y : Int) (n : Nat) : Int := ((List.range n).map fun (j : Nat) => rowC ps rule (16 * x) (16 * y + j) 16).sum
def valI (ps : List (List Pt)) (rule x y : Int) : Int := divI (65535 * cntC ps rule x y 16) 256
def posI (s : Ed) (y x0 : Int) (n : Nat) : Nat := (min (max (befI s y - x0) 0) ((n : Int) - 1)).toNat
def wstep (y x0 : Int) (ts : List Int) (s : Ed) : List Int :=
  if onRow s y then
    ((ts.set 0 (ts.getD 0 0 + sgn s)).set (posI s y x0 ts.length) ((ts.set 0 (ts.getD 0 0 + sgn s)).getD (posI s y x0 ts.length) 0 - sgn s))
  else ts
def windK (l : List Ed) (y x0 : Int) (n k : Nat) : List Int := (l.take k).foldl (wstep y x0) (List.replicate n 0)
def windL (l : List Ed) (y x0 : Int) (n : Nat) : List Int := l.foldl (wstep y x0) (List.replicate n 0)
def windB (l : List Ed) (y : Int) : Bool := l.any fun s => onRow s y
def psum (ts : List Int) (c : Nat) : Int := (ts.take c).sum
end Go.Rect

set_option linter.unusedSimpArgs false
set_option linter.unusedVariables false
namespace Go.Rect
open Go.Eng
def PtOk (p : Pt) : Prop := -16777216 ≤ p.x ∧ p.x ≤ 16777216 ∧ -16777216 ≤ p.y ∧ p.y ≤ 16777216
def XOk (x : Int) : Prop := -16777216 ≤ x ∧ x ≤ 16777216
def crS (l : List Ed) (x y : Int) : Int := (l.map fun s => crossI s x y).sum
def insK (ps : List (List Pt)) (j i : Nat) (x y : Int) : Int := crS (allE (ps.take j)) x y + crS ((edgesOf (ps.getD j [])).take i) x y
def inC (ps : List (List Pt)) (rule x y : Int) (j i : Nat) : Int := cntC ps rule x y j + rowC ps rule (16 * x) (16 * y + j) i
def areaE (r : Rc) : Int := if validB r then (if 256 < r.w ∨ 256 < r.h then 15 else 0) else 2
structure Mk where
  w : Int
  h : Int
  v : List Int
  deriving DecidableEq, Inhabited
def mkC (m : Mk) : List D := [.i m.w, .i m.h, .sl 1 (m.v.map iC)]
def mkD (m : Mk) : D := .agg (mkC m)
def unMk : List D → Mk
  | [.i w, .i h, .sl _ l] => ⟨w, h, l.map unI⟩
  | _ => ⟨0, 0, []⟩
def sameM (a b : Mk) : Bool := decide (a = b)
end Go.Rect

set_option linter.unusedSimpArgs false
set_option linter.unusedVariables false
namespace Go.Rect
open Go.Eng
def mskV (ps : List (List Pt)) (rule : Int) (r : Rc) (k : Nat) : Int := valI ps rule (r.x + ((k % r.w.toNat : Nat) : Int)) (r.y + ((k / r.w.toNat : Nat) : Int))
def VL (ps : List (List Pt)) (rule : Int) (r : Rc) (n : Nat) : List Int := (List.range n).map (mskV ps rule r)
def maskE (ps : List (List Pt)) (rule : Int) (r : Rc) : Int := if checkE ps rule ≠ 0 then checkE ps rule else areaE r
def maskR (ps : List (List Pt)) (rule : Int) (r : Rc) : Mk := if maskE ps rule r = 0 ∧ emptyB r = false then ⟨r.w, r.h, VL ps rule r (r.w.toNat * r.h.toNat)⟩ else ⟨0, 0, []⟩
end Go.Rect

set_option linter.unusedSimpArgs false
set_option linter.unusedVariables false
namespace Go.Rect
open Go.Eng
def tab (n : Nat) (f : Nat → Int) : List Int := (List.range n).map f
def EdOk (s : Ed) : Prop := PtOk s.a ∧ PtOk s.b
def EK (ps : List (List Pt)) (y0 y1 : Int) (j i : Nat) : List Ed := (allE (ps.take j) ++ (edgesOf (ps.getD j [])).take i).filter (keepE y0 y1)
end Go.Rect

set_option linter.unusedSimpArgs false
set_option linter.unusedVariables false
namespace Go.Rect
open Go.Eng
def pcnt (ts : List Int) (rule : Int) (q i : Nat) : Int := ((List.range i).map fun t => b2i (insB rule (psum ts (16 * q + t + 1)))).sum
def cntF (ts : List Int) (rule : Int) (o x i k : Nat) : Int := if k < o then 0 else if k < o + x then pcnt ts rule (k - o) 16 else if k = o + x then pcnt ts rule x i else 0
def cntK (ts : List Int) (rule : Int) (L : List Int) (o x i : Nat) : List Int := tab L.length fun k => L.getD k 0 + cntF ts rule o x i k
def cntL (ts : List Int) (rule : Int) (L : List Int) (o m : Nat) : List Int := cntK ts rule L o m 0
def stF (ps : List (List Pt)) (rule : Int) (r : Rc) (y j k : Nat) : Int :=
  if k < y * r.w.toNat then mskV ps rule r k else if k < (y + 1) * r.w.toNat then cntC ps rule (r.x + ((k - y * r.w.toNat : Nat) : Int)) (r.y + y) j else 0
def stG (ps : List (List Pt)) (rule : Int) (r : Rc) (y x k : Nat) : Int :=
  if k < y * r.w.toNat + x then mskV ps rule r k else if k < (y + 1) * r.w.toNat then cntC ps rule (r.x + ((k - y * r.w.toNat : Nat) : Int)) (r.y + y) 16 else 0
def NN' (r : Rc) : Nat := r.w.toNat * r.h.toNat
def SF (ps : List (List Pt)) (rule : Int) (r : Rc) (y j : Nat) : List Int := tab (NN' r) (stF ps rule r y j)
def SG (ps : List (List Pt)) (rule : Int) (r : Rc) (y x : Nat) : List Int := tab (NN' r) (stG ps rule r y x)
end Go.Rect

set_option linter.unusedSimpArgs false
set_option linter.unusedVariables false
namespace Go.Rect
open Go.Eng
abbrev Sz (r : Rc) : Prop := 1 ≤ r.w ∧ r.w ≤ 256 ∧ 1 ≤ r.h ∧ r.h ≤ 256 ∧ -1048576 ≤ r.x ∧ r.x + r.w ≤ 1048576 ∧ -1048576 ≤ r.y ∧ r.y + r.h ≤ 1048576
end Go.Rect

set_option linter.unusedSimpArgs false
set_option linter.unusedVariables false
namespace Go.Rect
open Go.Eng
structure Im where
  w : Int
  h : Int
  p : List Px
  deriving DecidableEq, Inhabited
def imC (m : Im) : List D := [.i m.w, .i m.h, .sl 4 (m.p.map pxC)]
def imD (m : Im) : D := .agg (imC m)
def unIm : List D → Im
  | [.i w, .i h, .sl _ l] => ⟨w, h, l.map unPx⟩
  | _ => ⟨0, 0, []⟩
theorem unImE (w h : Int) (v : List Px) : unIm [.i w, .i h, .sl 4 (v.map pxC)] = ⟨w, h, v⟩ := by simp only [unIm, mapPx]
def paintE (ps : List (List Pt)) (rule : Int) (c : Px) (r : Rc) : Int := if checkE ps rule ≠ 0 then checkE ps rule else if validP c = false then 2 else maskE ps rule r
def paintR (ps : List (List Pt)) (rule : Int) (c : Px) (r : Rc) : Im := if paintE ps rule c r = 0 then ⟨(maskR ps rule r).w, (maskR ps rule r).h, (maskR ps rule r).v.map (fadeP c)⟩ else ⟨0, 0, []⟩
def pxK (l : List Int) (c : Px) (k : Nat) : List Px := (l.take k).map (fadeP c) ++ List.replicate (l.length - k) zP
theorem ik (m : Im) {w h : Int} {v : List Px} {e e' : Int} (hm : m = ⟨w, h, v⟩ ∧ e' = e) : (w = m.w ∧ h = m.h ∧ v.map pxC = m.p.map pxC) ∧ e = e' := by obtain ⟨rfl, rfl⟩ := hm; exact ⟨⟨rfl, rfl, rfl⟩, rfl⟩
theorem ik0 (m : Im) {e e' : Int} (hm : m = ⟨0, 0, []⟩ ∧ e' = e) : (0 = m.w ∧ 0 = m.h ∧ m.p.map pxC = []) ∧ e = e' := by obtain ⟨rfl, rfl⟩ := hm; exact ⟨⟨rfl, rfl, rfl⟩, rfl⟩
theorem ikl (m : Im) {w h : Int} {v : List Px} {e e' : Int} {n : Nat} (hn : n = v.length) (hm : m = ⟨w, h, v⟩ ∧ e' = e) : (w = m.w ∧ h = m.h ∧ n = v.length ∧ v.map pxC = m.p.map pxC) ∧ e = e' := by obtain ⟨rfl, rfl⟩ := hm; exact ⟨⟨rfl, rfl, hn, rfl⟩, rfl⟩
def squareL (x0 y0 x1 y1 : Int) : List Pt := [⟨x0, y0⟩, ⟨x1, y0⟩, ⟨x1, y1⟩, ⟨x0, y1⟩]
def coversB (ps : List (List Pt)) (rule : Int) (w : List Int) : Bool := decide (maskE ps rule ⟨0, 0, w.length, 1⟩ = 0) && sameM (maskR ps rule ⟨0, 0, w.length, 1⟩) ⟨w.length, 1, w⟩
end Go.Rect

set_option linter.unusedSimpArgs false
set_option linter.unusedVariables false
namespace Go.Rect
open Go.Eng
def mvP (dx dy : Int) (p : Pt) : Pt := ⟨p.x + 16 * dx, p.y + 16 * dy⟩
def mvE (dx dy : Int) (s : Ed) : Ed := ⟨mvP dx dy s.a, mvP dx dy s.b⟩
def revE (s : Ed) : Ed := ⟨s.b, s.a⟩
def pth (F : Pt → Pt → Int) : List Pt → Int
  | a :: b :: l => F a b + pth F (b :: l)
  | _ => 0
def cyc (F : Pt → Pt → Int) (p : List Pt) : Int := ((List.range p.length).map fun i => F (p.getD i ⟨0, 0⟩) (nxt p i)).sum
end Go.Rect

