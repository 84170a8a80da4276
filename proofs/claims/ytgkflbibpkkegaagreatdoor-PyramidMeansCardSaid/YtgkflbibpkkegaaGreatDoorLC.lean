import Derived.Test.YtgkflbibpkkegaaGreatDoorLB
import Derived.Test.YtgkflbibpkkegaaGreatDoorEE
set_option linter.unusedSimpArgs false
set_option linter.unusedVariables false
set_option linter.unusedSimpArgs false
set_option linter.unusedVariables false
namespace Go.Rect
open Go.Eng
theorem nn_mul {w h : Int} (hw : 0 ≤ w) (hh : 0 ≤ h) : ((w.toNat * h.toNat : Nat) : Int) = w * h := by
  rw [Int.natCast_mul, Int.toNat_of_nonneg hw, Int.toNat_of_nonneg hh]
theorem yx_lt {w h y x : Nat} (hy : y < h) (hx : x < w) : y * w + x < w * h := by
  have : (y + 1) * w ≤ h * w := Nat.mul_le_mul_right w hy
  rw [Nat.add_mul, Nat.mul_comm h] at this; omega
def smallP (p : Pt) : Bool := decide (-1048576 ≤ p.x) && decide (p.x ≤ 1048576) && decide (-1048576 ≤ p.y) && decide (p.y ≤ 1048576)
def crF (x y : Int) (a b : Pt) : Int := crossI ⟨a, b⟩ x y
def rotP : List Pt → List Pt
  | [] => []
  | a :: l => l ++ [a]
end Go.Rect

set_option linter.unusedSimpArgs false
set_option linter.unusedVariables false
namespace Go.Rect
open Go.Eng
def sqIn (a b c d x y : Int) : Bool := (decide (min b d ≤ y) && decide (y < max b d)) && (decide (min a c ≤ x) && decide (x < max a c))
def spn (lo hi x : Int) (n : Nat) : Int := max 0 (min hi (x + n) - max lo x)
end Go.Rect

set_option linter.unusedSimpArgs false
set_option linter.unusedVariables false
namespace Go.Eng
open Go.RowKit
end Go.Eng
namespace Go.Rect
open Go.Eng
theorem tmN {k : Nat} {w : Int} (h : 0 < w) : (k : Int).tmod w = ((k % w.toNat : Nat) : Int) := by
  rw [Int.tmod_eq_emod_of_nonneg (by omega), Int.natCast_emod, Int.toNat_of_nonneg (by omega)]
theorem tdN {k : Nat} {w : Int} (h : 0 < w) : (k : Int).tdiv w = ((k / w.toNat : Nat) : Int) := by
  rw [Int.tdiv_eq_ediv_of_nonneg (by omega), Int.natCast_ediv, Int.toNat_of_nonneg (by omega)]
def MQ (p : List Pt) (dx dy : Int) (i : Nat) : List Pt := (p.take i).map (mvP dx dy)
def MV (ps : List (List Pt)) (dx dy : Int) (j : Nat) : List (List Pt) := (ps.take j).map fun p => p.map (mvP dx dy)
def at0 (l : Nat) (n : Int) : Nat := n.toNat % l
def cutB (p : List Pt) (t : Nat) : List Pt := p.drop t ++ [p.getD 0 ⟨0, 0⟩]
def RQ (p : List Pt) (i : Nat) : List Pt := p.reverse.take i
def SQ (p : List Pt) (i : Nat) : List Pt := (rotP p).take i
def RV' (ps : List (List Pt)) (j : Nat) : List (List Pt) := (ps.take j).map List.reverse
def SV (ps : List (List Pt)) (j : Nat) : List (List Pt) := (ps.take j).map rotP
end Go.Rect

set_option linter.unusedSimpArgs false
set_option linter.unusedVariables false
namespace Go.Rect
open Go.Eng
def unitB (n : Int) : Bool := decide (0 ≤ n) && decide (n ≤ 65535)
def zM : Mk := ⟨0, 0, []⟩
def okSz (m : Mk) : Bool := (decide (0 ≤ m.w) && decide (m.w ≤ 256) && decide (0 ≤ m.h) && decide (m.h ≤ 256)) && ((m.w == 0) == (m.h == 0)) && decide ((m.v.length : Int) = m.w * m.h)
def mchkE (m : Mk) : Int := if okSz m then (if m.v.all unitB then 0 else 2) else 15
def nn (w h : Int) : Nat := w.toNat * h.toNat
def SzOk (w h : Int) : Prop := 1 ≤ w ∧ w ≤ 256 ∧ 1 ≤ h ∧ h ≤ 256
def sizedB (w h : Int) : Bool := decide (1 ≤ w) && decide (w ≤ 256) && decide (1 ≤ h) && decide (h ≤ 256)
def sizedE (w h : Int) : Int := if sizedB w h then 0 else 15
def gF (w : Nat) (F : Int → Int → Int) (k : Nat) : Int := F ((k % w : Nat) : Int) ((k / w : Nat) : Int)
def grid (w h : Int) (F : Int → Int → Int) : Mk := ⟨w, h, tab (nn w h) (gF w.toNat F)⟩
def newE (w h v : Int) : Int := if sizedB w h then (if unitB v then 0 else 2) else 15
def newR (w h v : Int) : Mk := if newE w h v = 0 then grid w h (fun _ _ => v) else zM
def insM (m : Mk) (x y : Int) : Bool := decide (0 ≤ x) && decide (x < m.w) && decide (0 ≤ y) && decide (y < m.h)
def pickM (m : Mk) (x y : Int) : Int := if insM m x y then m.v.getD (y * m.w + x).toNat 0 else 0
def atM (m : Mk) (x y : Int) : Int := if mchkE m = 0 then pickM m x y else 0
def mrectE (w h : Int) (r : Rc) : Int := if sizedB w h then (if validB r then 0 else 2) else 15
def rF (r : Rc) (x y : Int) : Int := if hasB r ⟨x, y⟩ then 65535 else 0
def mrectR (w h : Int) (r : Rc) : Mk := if mrectE w h r = 0 then grid w h (rF r) else zM
def rndB (r : Rc) (x y : Int) : Bool :=
  decide (-(16 * r.w) ≤ 2 * x + 1 - 16 * (2 * r.x + r.w)) && decide (2 * x + 1 - 16 * (2 * r.x + r.w) ≤ 16 * r.w) && decide (-(16 * r.h) ≤ 2 * y + 1 - 16 * (2 * r.y + r.h)) && decide (2 * y + 1 - 16 * (2 * r.y + r.h) ≤ 16 * r.h) &&
  decide ((2 * x + 1 - 16 * (2 * r.x + r.w)) * (16 * r.h) * (2 * x + 1 - 16 * (2 * r.x + r.w)) * (16 * r.h) + (2 * y + 1 - 16 * (2 * r.y + r.h)) * (16 * r.w) * (2 * y + 1 - 16 * (2 * r.y + r.h)) * (16 * r.w) ≤ (16 * r.w) * (16 * r.h) * (16 * r.w) * (16 * r.h))
def cnt2 (g : Nat → Nat → Bool) (j i : Nat) : Int := ((List.range j).map fun j' => ((List.range 16).map fun i' => b2i (g j' i')).sum).sum + ((List.range i).map fun i' => b2i (g j i')).sum
def rndG (r : Rc) (x y : Int) (j i : Nat) : Bool := rndB r (16 * x + i) (16 * y + j)
def sampI (r : Rc) (x y : Int) : Int := cnt2 (rndG r x y) 16 0
def eF (r : Rc) (x y : Int) : Int := if emptyB r then 0 else divI (65535 * sampI r x y) 256
def ellE (w h : Int) (r : Rc) : Int := if sizedB w h then (if validB r && decide (r.w ≤ 1024) && decide (r.h ≤ 1024) then 0 else 2) else 15
def ellR (w h : Int) (r : Rc) : Mk := if ellE w h r = 0 then grid w h (eF r) else zM
def comb (p q how : Int) : Int := if how = 1 then max p q else if how = 2 then min p (65535 - q) else if how = 3 then min p q else if how = 4 then max (p - q) (q - p) else q
def combE (a b : Mk) (how : Int) : Int :=
  if mchkE a ≠ 0 then mchkE a else if mchkE b ≠ 0 then mchkE b else if how < 0 ∨ 4 < how then 8
  else if a.w ≠ 0 ∧ b.w ≠ 0 ∧ (a.w ≠ b.w ∨ a.h ≠ b.h) then 15 else 0
def orU (m : Mk) (k : Nat) : Int := if m.w = 0 then 65535 else m.v.getD k 0
def cF (a b : Mk) (how : Int) (k : Nat) : Int := comb (orU a k) (orU b k) how
def combR (a b : Mk) (how : Int) : Mk := if combE a b how = 0 then ⟨max a.w b.w, max a.h b.h, tab (nn (max a.w b.w) (max a.h b.h)) (cF a b how)⟩ else zM
def iF (m : Mk) (k : Nat) : Int := 65535 - m.v.getD k 0
def invR (m : Mk) : Mk := if mchkE m = 0 then ⟨m.w, m.h, tab m.v.length (iF m)⟩ else zM
def pascal : Nat → List Int
  | 0 => [1]
  | n + 1 => List.zipWith (· + ·) (0 :: pascal n) (pascal n ++ [0])
def pF (k j : Nat) : Int := (pascal k).getD j 0
def clampM (m : Mk) (x y : Int) : Int := m.v.getD (m.w * (min (max y 0) (m.h - 1)) + min (max x 0) (m.w - 1)).toNat 0
def ftT (m : Mk) (r : Nat) (x y : Int) (j i : Nat) : Int := (pascal (2 * r)).getD i 0 * (pascal (2 * r)).getD j 0 * clampM m (x + i - r) (y + j - r)
def sum2 (g : Nat → Nat → Int) (n j i : Nat) : Int := ((List.range j).map fun j' => ((List.range n).map fun i' => g j' i').sum).sum + ((List.range i).map fun i' => g j i').sum
def fF (m : Mk) (r : Int) (x y : Int) : Int := divI (sum2 (ftT m r.toNat x y) (2 * r.toNat + 1) (2 * r.toNat + 1) 0) (2 ^ (4 * r.toNat))
def feaE (m : Mk) (r : Int) : Int := if mchkE m ≠ 0 then mchkE m else if r < 0 ∨ 7 < r then 2 else 0
def feaR (m : Mk) (r : Int) : Mk := if feaE m r = 0 then grid m.w m.h (fF m r) else zM
def gst (m : Mk) (x y n : Int) (f : Int) (j i : Int) : Int :=
  if n * n < i * i + j * j ∨ insM m (x + i) (y + j) = false then f else if 0 ≤ n then max f (m.v.getD ((y + j) * m.w + (x + i)).toNat 0) else min f (m.v.getD ((y + j) * m.w + (x + i)).toNat 0)
def grow1 (m : Mk) (x y n : Int) (f : Int) (j : Int) (l : Nat) (k : Nat) : Int := (List.range k).foldl (fun f (i : Nat) => gst m x y n f j ((i : Int) - l)) f
def growK (m : Mk) (x y n : Int) (l : Nat) (j i : Nat) : Int := grow1 m x y n ((List.range j).foldl (fun f (j' : Nat) => grow1 m x y n f ((j' : Int) - l) l (2 * l + 1)) (m.v.getD (y * m.w + x).toNat 0)) ((j : Int) - l) l i
def gwF (m : Mk) (n : Int) (x y : Int) : Int := growK m x y n n.natAbs (2 * n.natAbs + 1) 0
def gwE (m : Mk) (n : Int) : Int := if mchkE m ≠ 0 then mchkE m else if n < -16 ∨ 16 < n then 2 else 0
def gwR (m : Mk) (n : Int) : Mk := if gwE m n = 0 then grid m.w m.h (gwF m n) else zM
def crF' (m : Mk) (r : Rc) (x y : Int) : Int := pickM m (r.x + x) (r.y + y)
def cropE (m : Mk) (r : Rc) : Int := if mchkE m ≠ 0 then mchkE m else if validB r then (if 256 < r.w ∨ 256 < r.h then 15 else 0) else 2
def cropR (m : Mk) (r : Rc) : Mk := if cropE m r = 0 ∧ m.w ≠ 0 ∧ emptyB r = false then grid r.w r.h (crF' m r) else zM
def mb0 (m : Mk) : B4 := ⟨m.w, m.h, -1, -1⟩
def mbst (m : Mk) (b : B4) (k : Nat) : B4 := if 0 < m.v.getD k 0 then ⟨min b.x0 ((k % m.w.toNat : Nat) : Int), min b.y0 ((k / m.w.toNat : Nat) : Int), max b.x1 ((k % m.w.toNat : Nat) : Int), max b.y1 ((k / m.w.toNat : Nat) : Int)⟩ else b
def mbK (m : Mk) (k : Nat) : B4 := (List.range k).foldl (mbst m) (mb0 m)
def b4R (b : B4) : Rc := if b.x1 < 0 then zR else ⟨b.x0, b.y0, b.x1 - b.x0 + 1, b.y1 - b.y0 + 1⟩
def mboxR (m : Mk) : Rc := if mchkE m = 0 then b4R (mbK m (nn m.w m.h)) else zR
def zI : Im := ⟨0, 0, []⟩
def isz (w h : Int) : Bool := (decide (0 ≤ w) && decide (w ≤ 256) && decide (0 ≤ h) && decide (h ≤ 256)) && ((w == 0) == (h == 0))
def okIm (m : Im) : Bool := (decide (0 ≤ m.w) && decide (m.w ≤ 256) && decide (0 ≤ m.h) && decide (m.h ≤ 256)) && ((m.w == 0) == (m.h == 0)) && decide ((m.p.length : Int) = m.w * m.h)
def ichkE (m : Im) : Int := if okIm m then (if m.p.all validP then 0 else 2) else 15
def mixP (a b : Px) (t : Int) : Px :=
  let u := unitI a.a * (65535 - unitI t)
  let v := unitI b.a * unitI t
  if divI (u + v) 65535 = 0 then zP else ⟨divI (unitI a.r * u + unitI b.r * v) (u + v), divI (unitI a.g * u + unitI b.g * v) (u + v), divI (unitI a.b * u + unitI b.b * v) (u + v), divI (u + v) 65535⟩
def fitB (m : Mk) (i : Im) : Bool := (m.w == 0) || ((m.w == i.w) && (m.h == i.h))
def fdE (i : Im) (m : Mk) : Int := if ichkE i ≠ 0 then ichkE i else if mchkE m ≠ 0 then mchkE m else if fitB m i then 0 else 15
def tabP (n : Nat) (f : Nat → Px) : List Px := (List.range n).map f
def fdF (i : Im) (m : Mk) (k : Nat) : Px := if m.w = 0 then i.p.getD k zP else fadeP (i.p.getD k zP) (m.v.getD k 0)
def fdR (i : Im) (m : Mk) : Im := if fdE i m = 0 then ⟨i.w, i.h, tabP i.p.length (fdF i m)⟩ else zI
def mxE (a b : Im) (m : Mk) : Int := if ichkE a ≠ 0 then ichkE a else if ichkE b ≠ 0 then ichkE b else if mchkE m ≠ 0 then mchkE m else if a.w = b.w ∧ a.h = b.h ∧ fitB m a = true then 0 else 15
def mxF (a b : Im) (m : Mk) (k : Nat) : Px :=
  if orU m k = 0 then a.p.getD k zP else if orU m k = 65535 then b.p.getD k zP else mixP (a.p.getD k zP) (b.p.getD k zP) (orU m k)
def mxR (a b : Im) (m : Mk) : Im := if mxE a b m = 0 then ⟨b.w, b.h, tabP b.p.length (mxF a b m)⟩ else zI
def polyE (w h : Int) (p : List Pt) : Int := if sizedB w h then maskE [p] 0 ⟨0, 0, w, h⟩ else 15
def polyR (w h : Int) (p : List Pt) : Mk := if sizedB w h then maskR [p] 0 ⟨0, 0, w, h⟩ else zM
def sameI (a b : Im) : Bool := decide (a = b)
end Go.Rect

set_option linter.unusedSimpArgs false
set_option linter.unusedVariables false
namespace Go.Rect
open Go.Eng
def Z0 (w h : Int) : Prop := 0 ≤ w ∧ w ≤ 256 ∧ 0 ≤ h ∧ h ≤ 256
theorem nn_bd {w h : Int} (hz : Z0 w h) : nn w h ≤ 65536 := by
  unfold Z0 at hz
  have : w.toNat * h.toNat ≤ 256 * 256 := Nat.mul_le_mul (by omega) (by omega)
  unfold nn; omega
theorem nnE {w h : Int} (hz : Z0 w h) : ((nn w h : Nat) : Int) = w * h := by unfold Z0 at hz; exact nn_mul (by omega) (by omega)
theorem wN {w h : Int} (hz : Z0 w h) : IntKind.i64.wrap (w * h) = ((nn w h : Nat) : Int) := by
  have h1 := nn_bd hz; have h2 := nnE hz
  rw [w64 (by omega) (by omega)]; omega
theorem yxI {w h : Int} {y x : Nat} (hz : Z0 w h) (hy : (y : Int) < h) (hx : (x : Int) < w) : (y : Int) * w + x = ((y * w.toNat + x : Nat) : Int) ∧ y * w.toNat + x < nn w h ∧ 0 ≤ (y : Int) * w ∧ (y : Int) * w ≤ 65536 ∧ y * w.toNat + x < 65536 := by
  have h1 := nn_bd hz; unfold Z0 at hz
  have m := yx_lt (w := w.toNat) (h := h.toNat) (y := y) (x := x) (by omega) (by omega)
  have e : ((y * w.toNat : Nat) : Int) = (y : Int) * w := by rw [Int.natCast_mul, Int.toNat_of_nonneg (by omega)]
  unfold nn at *
  refine ⟨by omega, m, by omega, by omega, by omega⟩
theorem yxW {w h : Int} {y x : Nat} (hz : Z0 w h) (hy : (y : Int) < h) (hx : (x : Int) < w) : IntKind.i64.wrap (IntKind.i64.wrap ((y : Int) * w) + (x : Int)) = ((y * w.toNat + x : Nat) : Int) := by
  have h1 := yxI hz hy hx
  rw [w64 (n := (y : Int) * w) (by omega) (by omega), w64 (by omega) (by omega), h1.1]
def fil (n : Nat) (f : Nat → Int) (k : Nat) : List Int := tab n fun i => if i < k then f i else 0
theorem row_e {w y x : Nat} (h1 : x ≤ w) (h2 : w ≤ x) : y * w + x = (y + 1) * w := by rw [Nat.add_mul]; omega
def rcK (w h : Int) (p : Rc) (Y X : Int) : List Int := tab (nn w h) fun k =>
  if hasB p ⟨((k % w.toNat : Nat) : Int), ((k / w.toNat : Nat) : Int)⟩ = true ∧ (((k / w.toNat : Nat) : Int) < Y ∨ ((k / w.toNat : Nat) : Int) = Y ∧ ((k % w.toNat : Nat) : Int) < X) then 65535 else 0
end Go.Rect

set_option linter.unusedSimpArgs false
set_option linter.unusedVariables false
namespace Go.Rect
open Go.Eng
theorem unImN : unIm [.i 0, .i 0, .v (.slice none 0 0)] = ⟨0, 0, []⟩ := rfl
theorem unIm0 (w h : Int) : unIm [.i w, .i h, .sl 4 []] = ⟨w, h, []⟩ := rfl
theorem unPtV (x y : Int) : unPt [.i x, .i y] = ⟨x, y⟩ := rfl
theorem tabP_len (n : Nat) (f : Nat → Px) : (tabP n f).length = n := by simp [tabP]
def filP (n : Nat) (f g : Nat → Px) (k : Nat) : List Px := tabP n fun i => if i < k then f i else g i
theorem filP_len (n : Nat) (f g : Nat → Px) (k : Nat) : (filP n f g k).length = n := tabP_len _ _
end Go.Rect

set_option linter.unusedSimpArgs false
set_option linter.unusedVariables false
namespace Go.Rect
open Go.Eng
theorem imEta (m : Im) : (⟨m.w, m.h, m.p⟩ : Im) = m := rfl
theorem unRcV (x y w h : Int) : unRc [.i x, .i y, .i w, .i h] = ⟨x, y, w, h⟩ := rfl
theorem rcEta (r : Rc) : (⟨r.x, r.y, r.w, r.h⟩ : Rc) = r := rfl
theorem ptEta (r : Pt) : (⟨r.x, r.y⟩ : Pt) = r := rfl
def ElOk (r : Rc) : Prop := -1048576 ≤ r.x ∧ r.x ≤ 1048576 ∧ 0 < r.w ∧ r.w ≤ 1024 ∧ -1048576 ≤ r.y ∧ r.y ≤ 1048576 ∧ 0 < r.h ∧ r.h ≤ 1024 ∧ r.x + r.w ≤ 1048576 ∧ r.y + r.h ≤ 1048576
end Go.Rect

set_option linter.unusedSimpArgs false
set_option linter.unusedVariables false
namespace Go.Rect
open Go.Eng
def rndE (r : Rc) (x y : Int) (j i : Nat) : Bool := !emptyB r && rndG r x y j i
def orM (a b : Mk) : Mk := if a.w = 0 then grid b.w b.h (fun _ _ => 65535) else a
def cm1 (p q how : Int) : Int := if how = 1 then max p q else q
def cm2 (p q how : Int) : Int := if how = 2 then min p (65535 - q) else cm1 p q how
def cm3 (p q how : Int) : Int := if how = 3 then min p q else cm2 p q how
end Go.Rect

