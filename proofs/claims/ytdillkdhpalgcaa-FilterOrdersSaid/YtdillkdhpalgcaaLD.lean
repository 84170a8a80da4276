import Derived.Test.YtdillkdhpalgcaaLC
set_option linter.unusedSimpArgs false
set_option linter.unusedVariables false
set_option linter.unusedSimpArgs false
set_option linter.unusedVariables false
namespace Go.Rect
open Go.Eng
/-! ### Layer 23: models -/
def unitB (n : Int) : Bool := decide (0 ≤ n) && decide (n ≤ 65535)
def zM : Mk := ⟨0, 0, []⟩
def okSz (m : Mk) : Bool := (decide (0 ≤ m.w) && decide (m.w ≤ 256) && decide (0 ≤ m.h) && decide (m.h ≤ 256)) && ((m.w == 0) == (m.h == 0)) && decide ((m.v.length : Int) = m.w * m.h)
def mchkE (m : Mk) : Int := if okSz m then (if m.v.all unitB then 0 else 2) else 15
def nn (w h : Int) : Nat := w.toNat * h.toNat
def SzOk (w h : Int) : Prop := 1 ≤ w ∧ w ≤ 256 ∧ 1 ≤ h ∧ h ≤ 256
def sizedB (w h : Int) : Bool := decide (1 ≤ w) && decide (w ≤ 256) && decide (1 ≤ h) && decide (h ≤ 256)
def sizedE (w h : Int) : Int := if sizedB w h then 0 else 15
/-- A grid of values, row by row. -/
def gF (w : Nat) (F : Int → Int → Int) (k : Nat) : Int := F ((k % w : Nat) : Int) ((k / w : Nat) : Int)
def grid (w h : Int) (F : Int → Int → Int) : Mk := ⟨w, h, tab (nn w h) (gF w.toNat F)⟩
def newE (w h v : Int) : Int := if sizedB w h then (if unitB v then 0 else 2) else 15
def newR (w h v : Int) : Mk := if newE w h v = 0 then grid w h (fun _ _ => v) else zM
def insM (m : Mk) (x y : Int) : Bool := decide (0 ≤ x) && decide (x < m.w) && decide (0 ≤ y) && decide (y < m.h)
def pickM (m : Mk) (x y : Int) : Int := if insM m x y then m.v.getD (y * m.w + x).toNat 0 else 0
def atM (m : Mk) (x y : Int) : Int := if mchkE m = 0 then pickM m x y else 0
def mrectE (w h : Int) (r : Rc) : Int := if sizedB w h then (if validB r then 0 else 2) else 15
def rF (r : Rc) (x y : Int) : Int := if hasB r ⟨x, y⟩ then 65535 else 0
def mrectR (w h : Int) (r : Rc) : Mk := if mrectE w h r = 0 then grid w h (rF r) else zM
def rndB (r : Rc) (x y : Int) : Bool :=
  decide (-(16 * r.w) ≤ 2 * x + 1 - 16 * (2 * r.x + r.w)) && decide (2 * x + 1 - 16 * (2 * r.x + r.w) ≤ 16 * r.w) && decide (-(16 * r.h) ≤ 2 * y + 1 - 16 * (2 * r.y + r.h)) && decide (2 * y + 1 - 16 * (2 * r.y + r.h) ≤ 16 * r.h) &&
  decide ((2 * x + 1 - 16 * (2 * r.x + r.w)) * (16 * r.h) * (2 * x + 1 - 16 * (2 * r.x + r.w)) * (16 * r.h) + (2 * y + 1 - 16 * (2 * r.y + r.h)) * (16 * r.w) * (2 * y + 1 - 16 * (2 * r.y + r.h)) * (16 * r.w) ≤ (16 * r.w) * (16 * r.h) * (16 * r.w) * (16 * r.h))
/-- How many of 16 rows of 16 samples: j rows, and i samples of the next. -/
def cnt2 (g : Nat → Nat → Bool) (j i : Nat) : Int := ((List.range j).map fun j' => ((List.range 16).map fun i' => b2i (g j' i')).sum).sum + ((List.range i).map fun i' => b2i (g j i')).sum
def rndG (r : Rc) (x y : Int) (j i : Nat) : Bool := rndB r (16 * x + i) (16 * y + j)
def sampI (r : Rc) (x y : Int) : Int := cnt2 (rndG r x y) 16 0
def eF (r : Rc) (x y : Int) : Int := if emptyB r then 0 else divI (65535 * sampI r x y) 256
def ellE (w h : Int) (r : Rc) : Int := if sizedB w h then (if validB r && decide (r.w ≤ 1024) && decide (r.h ≤ 1024) then 0 else 2) else 15
def ellR (w h : Int) (r : Rc) : Mk := if ellE w h r = 0 then grid w h (eF r) else zM
def comb (p q how : Int) : Int := if how = 1 then max p q else if how = 2 then min p (65535 - q) else if how = 3 then min p q else if how = 4 then max (p - q) (q - p) else q
def combE (a b : Mk) (how : Int) : Int :=
  if mchkE a ≠ 0 then mchkE a else if mchkE b ≠ 0 then mchkE b else if how < 0 ∨ 4 < how then 8
  else if a.w ≠ 0 ∧ b.w ≠ 0 ∧ (a.w ≠ b.w ∨ a.h ≠ b.h) then 15 else 0
def orU (m : Mk) (k : Nat) : Int := if m.w = 0 then 65535 else m.v.getD k 0
def cF (a b : Mk) (how : Int) (k : Nat) : Int := comb (orU a k) (orU b k) how
def combR (a b : Mk) (how : Int) : Mk := if combE a b how = 0 then ⟨max a.w b.w, max a.h b.h, tab (nn (max a.w b.w) (max a.h b.h)) (cF a b how)⟩ else zM
def iF (m : Mk) (k : Nat) : Int := 65535 - m.v.getD k 0
def invR (m : Mk) : Mk := if mchkE m = 0 then ⟨m.w, m.h, tab m.v.length (iF m)⟩ else zM
/-- Binomial coefficients. -/
def pascal : Nat → List Int
  | 0 => [1]
  | n + 1 => List.zipWith (· + ·) (0 :: pascal n) (pascal n ++ [0])
def pF (k j : Nat) : Int := (pascal k).getD j 0
def clampM (m : Mk) (x y : Int) : Int := m.v.getD (m.w * (min (max y 0) (m.h - 1)) + min (max x 0) (m.w - 1)).toNat 0
def ftT (m : Mk) (r : Nat) (x y : Int) (j i : Nat) : Int := (pascal (2 * r)).getD i 0 * (pascal (2 * r)).getD j 0 * clampM m (x + i - r) (y + j - r)
/-- Sums over rows of n, j rows and i terms of the next. -/
def sum2 (g : Nat → Nat → Int) (n j i : Nat) : Int := ((List.range j).map fun j' => ((List.range n).map fun i' => g j' i').sum).sum + ((List.range i).map fun i' => g j i').sum
def fF (m : Mk) (r : Int) (x y : Int) : Int := divI (sum2 (ftT m r.toNat x y) (2 * r.toNat + 1) (2 * r.toNat + 1) 0) (2 ^ (4 * r.toNat))
def feaE (m : Mk) (r : Int) : Int := if mchkE m ≠ 0 then mchkE m else if r < 0 ∨ 7 < r then 2 else 0
def feaR (m : Mk) (r : Int) : Mk := if feaE m r = 0 then grid m.w m.h (fF m r) else zM
/-- Growing. -/
def gst (m : Mk) (x y n : Int) (f : Int) (j i : Int) : Int :=
  if n * n < i * i + j * j ∨ insM m (x + i) (y + j) = false then f else if 0 ≤ n then max f (m.v.getD ((y + j) * m.w + (x + i)).toNat 0) else min f (m.v.getD ((y + j) * m.w + (x + i)).toNat 0)
def grow1 (m : Mk) (x y n : Int) (f : Int) (j : Int) (l : Nat) (k : Nat) : Int := (List.range k).foldl (fun f (i : Nat) => gst m x y n f j ((i : Int) - l)) f
def growK (m : Mk) (x y n : Int) (l : Nat) (j i : Nat) : Int := grow1 m x y n ((List.range j).foldl (fun f (j' : Nat) => grow1 m x y n f ((j' : Int) - l) l (2 * l + 1)) (m.v.getD (y * m.w + x).toNat 0)) ((j : Int) - l) l i
def gwF (m : Mk) (n : Int) (x y : Int) : Int := growK m x y n n.natAbs (2 * n.natAbs + 1) 0
def gwE (m : Mk) (n : Int) : Int := if mchkE m ≠ 0 then mchkE m else if n < -16 ∨ 16 < n then 2 else 0
def gwR (m : Mk) (n : Int) : Mk := if gwE m n = 0 then grid m.w m.h (gwF m n) else zM
def crF' (m : Mk) (r : Rc) (x y : Int) : Int := pickM m (r.x + x) (r.y + y)
def cropE (m : Mk) (r : Rc) : Int := if mchkE m ≠ 0 then mchkE m else if validB r then (if 256 < r.w ∨ 256 < r.h then 15 else 0) else 2
def cropR (m : Mk) (r : Rc) : Mk := if cropE m r = 0 ∧ m.w ≠ 0 ∧ emptyB r = false then grid r.w r.h (crF' m r) else zM
/-- The box of the values above 0. -/
def mb0 (m : Mk) : B4 := ⟨m.w, m.h, -1, -1⟩
def mbst (m : Mk) (b : B4) (k : Nat) : B4 := if 0 < m.v.getD k 0 then ⟨min b.x0 ((k % m.w.toNat : Nat) : Int), min b.y0 ((k / m.w.toNat : Nat) : Int), max b.x1 ((k % m.w.toNat : Nat) : Int), max b.y1 ((k / m.w.toNat : Nat) : Int)⟩ else b
def mbK (m : Mk) (k : Nat) : B4 := (List.range k).foldl (mbst m) (mb0 m)
def b4R (b : B4) : Rc := if b.x1 < 0 then zR else ⟨b.x0, b.y0, b.x1 - b.x0 + 1, b.y1 - b.y0 + 1⟩
def mboxR (m : Mk) : Rc := if mchkE m = 0 then b4R (mbK m (nn m.w m.h)) else zR
/-- Images. -/
def zI : Im := ⟨0, 0, []⟩
def isz (w h : Int) : Bool := (decide (0 ≤ w) && decide (w ≤ 256) && decide (0 ≤ h) && decide (h ≤ 256)) && ((w == 0) == (h == 0))
def okIm (m : Im) : Bool := (decide (0 ≤ m.w) && decide (m.w ≤ 256) && decide (0 ≤ m.h) && decide (m.h ≤ 256)) && ((m.w == 0) == (m.h == 0)) && decide ((m.p.length : Int) = m.w * m.h)
def ichkE (m : Im) : Int := if okIm m then (if m.p.all validP then 0 else 2) else 15
def mixP (a b : Px) (t : Int) : Px :=
  let u := unitI a.a * (65535 - unitI t)
  let v := unitI b.a * unitI t
  if divI (u + v) 65535 = 0 then zP else ⟨divI (unitI a.r * u + unitI b.r * v) (u + v), divI (unitI a.g * u + unitI b.g * v) (u + v), divI (unitI a.b * u + unitI b.b * v) (u + v), divI (u + v) 65535⟩
def fitB (m : Mk) (i : Im) : Bool := (m.w == 0) || ((m.w == i.w) && (m.h == i.h))
def fdE (i : Im) (m : Mk) : Int := if ichkE i ≠ 0 then ichkE i else if mchkE m ≠ 0 then mchkE m else if fitB m i then 0 else 15
def tabP (n : Nat) (f : Nat → Px) : List Px := (List.range n).map f
def fdF (i : Im) (m : Mk) (k : Nat) : Px := if m.w = 0 then i.p.getD k zP else fadeP (i.p.getD k zP) (m.v.getD k 0)
def fdR (i : Im) (m : Mk) : Im := if fdE i m = 0 then ⟨i.w, i.h, tabP i.p.length (fdF i m)⟩ else zI
def mxE (a b : Im) (m : Mk) : Int := if ichkE a ≠ 0 then ichkE a else if ichkE b ≠ 0 then ichkE b else if mchkE m ≠ 0 then mchkE m else if a.w = b.w ∧ a.h = b.h ∧ fitB m a = true then 0 else 15
def mxF (a b : Im) (m : Mk) (k : Nat) : Px :=
  if orU m k = 0 then a.p.getD k zP else if orU m k = 65535 then b.p.getD k zP else mixP (a.p.getD k zP) (b.p.getD k zP) (orU m k)
def mxR (a b : Im) (m : Mk) : Im := if mxE a b m = 0 then ⟨b.w, b.h, tabP b.p.length (mxF a b m)⟩ else zI
def polyE (w h : Int) (p : List Pt) : Int := if sizedB w h then maskE [p] 0 ⟨0, 0, w, h⟩ else 15
def polyR (w h : Int) (p : List Pt) : Mk := if sizedB w h then maskR [p] 0 ⟨0, 0, w, h⟩ else zM
def sameI (a b : Im) : Bool := decide (a = b)
end Go.Rect

set_option linter.unusedSimpArgs false
set_option linter.unusedVariables false
namespace Go.Rect
open Go.Eng
/-! ### Layer 23: sizes and tables -/
def Z0 (w h : Int) : Prop := 0 ≤ w ∧ w ≤ 256 ∧ 0 ≤ h ∧ h ≤ 256
theorem sized_T {w h : Int} : sizedB w h = true ↔ SzOk w h := by
  simp only [sizedB, SzOk, Bool.and_eq_true, decide_eq_true_eq]; omega
theorem sized_F {w h : Int} : sizedB w h = false ↔ ¬ SzOk w h := by
  rw [← sized_T]; cases sizedB w h <;> simp
theorem sz_z {w h : Int} (hs : SzOk w h) : Z0 w h := by unfold SzOk at hs; unfold Z0; omega
theorem sz1 {w h : Int} (hc : ((w < 1 ∨ 256 < w) ∨ h < 1) ∨ 256 < h) : 15 = sizedE w h := by
  rw [sizedE, sized_F.2 (by unfold SzOk; omega)]; rfl
theorem sz2 {w h : Int} (hc : ((1 ≤ w ∧ w ≤ 256) ∧ 1 ≤ h) ∧ h ≤ 256) : 0 = sizedE w h := by
  rw [sizedE, sized_T.2 (by unfold SzOk; omega)]; rfl
theorem sizedE_0 {w h : Int} (hc : sizedE w h = 0) : SzOk w h := by
  unfold sizedE at hc
  split at hc
  · next g => exact sized_T.1 g
  · omega
theorem sizedE_1 {w h : Int} (hc : ¬ sizedE w h = 0) : sizedB w h = false := by
  unfold sizedE at hc
  cases g : sizedB w h
  · rfl
  · simp [g] at hc
theorem nn_bd {w h : Int} (hz : Z0 w h) : nn w h ≤ 65536 := by
  unfold Z0 at hz
  have : w.toNat * h.toNat ≤ 256 * 256 := Nat.mul_le_mul (by omega) (by omega)
  unfold nn; omega
theorem nnE {w h : Int} (hz : Z0 w h) : ((nn w h : Nat) : Int) = w * h := by unfold Z0 at hz; exact nn_mul (by omega) (by omega)
theorem wN {w h : Int} (hz : Z0 w h) : IntKind.i64.wrap (w * h) = ((nn w h : Nat) : Int) := by
  have h1 := nn_bd hz; have h2 := nnE hz
  rw [w64 (by omega) (by omega)]; omega
theorem yxI {w h : Int} {y x : Nat} (hz : Z0 w h) (hy : (y : Int) < h) (hx : (x : Int) < w) : (y : Int) * w + x = ((y * w.toNat + x : Nat) : Int) ∧ y * w.toNat + x < nn w h ∧ 0 ≤ (y : Int) * w ∧ (y : Int) * w ≤ 65536 ∧ y * w.toNat + x < 65536 := by
  have h1 := nn_bd hz; unfold Z0 at hz
  have m := yx_lt (w := w.toNat) (h := h.toNat) (y := y) (x := x) (by omega) (by omega)
  have e : ((y * w.toNat : Nat) : Int) = (y : Int) * w := by rw [Int.natCast_mul, Int.toNat_of_nonneg (by omega)]
  unfold nn at *
  refine ⟨by omega, m, by omega, by omega, by omega⟩
theorem yxW {w h : Int} {y x : Nat} (hz : Z0 w h) (hy : (y : Int) < h) (hx : (x : Int) < w) : IntKind.i64.wrap (IntKind.i64.wrap ((y : Int) * w) + (x : Int)) = ((y * w.toNat + x : Nat) : Int) := by
  have h1 := yxI hz hy hx
  rw [w64 (n := (y : Int) * w) (by omega) (by omega), w64 (by omega) (by omega), h1.1]
/-- A table that is filled up to k. -/
def fil (n : Nat) (f : Nat → Int) (k : Nat) : List Int := tab n fun i => if i < k then f i else 0
theorem fil_len (n : Nat) (f : Nat → Int) (k : Nat) : (fil n f k).length = n := tab_len _ _
theorem fil_0 (n : Nat) (f : Nat → Int) : List.replicate n 0 = fil n f 0 := by
  rw [tab_of (List.replicate n (0 : Int)), List.length_replicate, fil]
  apply tab_ext
  intro k hk
  simp [List.getD_eq_getElem?_getD, List.getElem?_replicate, hk]
theorem fil_set {n k : Nat} {f : Nat → Int} {v : Int} (h : v = f k) : (fil n f k).set k v = fil n f (k + 1) := by
  rw [fil, tab_set, fil]
  apply tab_ext
  intro i hi
  by_cases e : i = k
  · subst e; simp [h]
  · simp only [if_neg e]
    by_cases g : i < k
    · rw [if_pos g, if_pos (by omega)]
    · rw [if_neg g, if_neg (by omega)]
theorem fil_all {n k : Nat} {f : Nat → Int} (h : n ≤ k) : fil n f k = tab n f := by
  rw [fil]; apply tab_ext; intro i hi; rw [if_pos (by omega)]
theorem fil_setI {n k : Nat} {f : Nat → Int} {v : Int} (h : v = f k) : ((fil n f k).set k v).map iC = (fil n f (k + 1)).map iC := by rw [fil_set h]
theorem fil_0I (n : Nat) (f : Nat → Int) : (List.replicate n 0).map iC = (fil n f 0).map iC := by rw [fil_0 n f]
theorem gF_at {w y x : Nat} {F : Int → Int → Int} (hx : x < w) : gF w F (y * w + x) = F x y := by
  unfold gF
  rw [Nat.mul_comm y, Nat.mul_add_mod, Nat.mod_eq_of_lt hx, Nat.mul_add_div (by omega), Nat.div_eq_of_lt hx, Nat.add_zero]
theorem tab_succ (n : Nat) (f : Nat → Int) : tab (n + 1) f = tab n f ++ [f n] := by simp [tab, List.range_succ]
theorem tab_app {n : Nat} {f : Nat → Int} {v : Int} (h : v = f n) : (tab n f).map iC ++ [[.i v]] = (tab (n + 1) f).map iC := by rw [tab_succ, h]; simp [iC]
theorem row_e {w y x : Nat} (h1 : x ≤ w) (h2 : w ≤ x) : y * w + x = (y + 1) * w := by rw [Nat.add_mul]; omega
theorem tkTab (n : Nat) (f : Nat → Int) : ((tab n f).map iC).take n = (tab n f).map iC := List.take_of_length_le (by simp [tab_len])
/-! ### Check -/
theorem mc1 {m : Mk} (hc : ((m.w < 0 ∨ 256 < m.w) ∨ m.h < 0) ∨ 256 < m.h) : 15 = mchkE m := by
  have : okSz m = false := by
    rw [Bool.eq_false_iff]; intro g
    simp only [okSz, Bool.and_eq_true, decide_eq_true_eq] at g; omega
  rw [mchkE, this]; rfl
theorem mc2 {m : Mk} (hc : ¬ ((m.w == 0) = (m.h == 0)) ∨ ¬ (m.v.length : Int) = m.w * m.h) : 15 = mchkE m := by
  have : okSz m = false := by
    rw [Bool.eq_false_iff]; intro g
    simp only [okSz, Bool.and_eq_true, decide_eq_true_eq, beq_iff_eq] at g
    rcases hc with hc | hc
    · exact hc g.1.2
    · exact hc g.2
  rw [mchkE, this]; rfl
theorem mcS {m : Mk} (h1 : ((0 ≤ m.w ∧ m.w ≤ 256) ∧ 0 ≤ m.h) ∧ m.h ≤ 256) (h2 : (m.w == 0) = (m.h == 0) ∧ (m.v.length : Int) = m.w * m.h) : okSz m = true := by
  simp only [okSz, Bool.and_eq_true, decide_eq_true_eq, beq_iff_eq]
  exact ⟨⟨⟨⟨⟨h1.1.1.1, h1.1.1.2⟩, h1.1.2⟩, h1.2⟩, h2.1⟩, h2.2⟩
theorem mc3 {m : Mk} {k : Nat} (h : okSz m = true) (hk : (k : Int) < (m.v.length : Int)) (hc : unitB (m.v.getD k 0) = false) : 2 = mchkE m := by
  have : m.v.all unitB = false := by
    rw [Bool.eq_false_iff]; intro g
    rw [List.all_eq_true] at g
    have := g _ (getD_mem (z := (0 : Int)) hk)
    rw [hc] at this; cases this
  rw [mchkE, h, this]; rfl
theorem mc4 {m : Mk} {k : Nat} (h : okSz m = true) (hI : (m.v.take k).all unitB = true) (hk : (m.v.length : Int) ≤ (k : Int)) : 0 = mchkE m := by
  rw [List.take_of_length_le (by omega)] at hI
  rw [mchkE, h, hI]; rfl
theorem mc5 {m : Mk} {k : Nat} (hI : (m.v.take k).all unitB = true) (hk : (k : Int) < (m.v.length : Int)) (hc : unitB (m.v.getD k 0) = true) : (m.v.take (k + 1)).all unitB = true := by
  rw [take_succ' (z := (0 : Int)) hk, List.all_append, hI]; simp only [List.all_cons, hc, List.all_nil, Bool.and_self]
theorem mchk0 {m : Mk} (h : mchkE m = 0) : Z0 m.w m.h ∧ (m.w = 0 ↔ m.h = 0) ∧ m.v.length = nn m.w m.h ∧ ∀ k, 0 ≤ m.v.getD k 0 ∧ m.v.getD k 0 ≤ 65535 := by
  unfold mchkE at h
  split at h
  · next g =>
    split at h
    · next a =>
      simp only [okSz, Bool.and_eq_true, decide_eq_true_eq, beq_iff_eq] at g
      have hz : Z0 m.w m.h := by unfold Z0; omega
      refine ⟨hz, ?_, ?_, fun k => ?_⟩
      · have := g.1.2
        constructor
        · intro e; rw [e] at this; simpa using this.symm
        · intro e; rw [e] at this; simpa using this
      · have := nnE hz; omega
      · rw [List.all_eq_true] at a
        by_cases hk : k < m.v.length
        · have := a _ (getD_mem (z := (0 : Int)) (k := k) (l := m.v) (by omega))
          simpa [unitB] using this
        · rw [List.getD_eq_getElem?_getD, List.getElem?_eq_none (by omega)]; simp
    · omega
  · omega
/-! ### New -/
theorem nw1 {w h v : Int} (hc : ¬ sizedE w h = 0) : newR w h v = ⟨0, 0, []⟩ ∧ newE w h v = sizedE w h := by
  have e := sizedE_1 hc
  have e1 : newE w h v = 15 := by rw [newE, e]; rfl
  exact ⟨by rw [newR, e1]; rfl, by rw [e1, sizedE, e]; rfl⟩
theorem nw2 {w h v : Int} (h0 : sizedE w h = 0) (hc : unitB v = false) : newR w h v = ⟨0, 0, []⟩ ∧ newE w h v = 2 := by
  have e1 : newE w h v = 2 := by rw [newE, sized_T.2 (sizedE_0 h0), hc]; rfl
  exact ⟨by rw [newR, e1]; rfl, e1⟩
theorem nw3 {w h v : Int} (h0 : sizedE w h = 0) (hc : unitB v = true) : newR w h v = ⟨w, h, tab (nn w h) (gF w.toNat fun _ _ => v)⟩ ∧ newE w h v = 0 := by
  have e1 : newE w h v = 0 := by rw [newE, sized_T.2 (sizedE_0 h0), hc]; rfl
  exact ⟨by rw [newR, e1]; rfl, e1⟩
/-! ### At -/
theorem at1 {m : Mk} {x y : Int} (hc : insM m x y = false ∨ ¬ mchkE m = 0) : 0 = atM m x y := by
  unfold atM pickM
  rcases hc with hc | hc
  · rw [hc]; split <;> rfl
  · rw [if_neg hc]
theorem insM_T {m : Mk} {x y : Int} : insM m x y = true ↔ 0 ≤ x ∧ x < m.w ∧ 0 ≤ y ∧ y < m.h := by
  simp only [insM, Bool.and_eq_true, decide_eq_true_eq]; omega
theorem insM_F {m : Mk} {x y : Int} : insM m x y = false ↔ ¬ (0 ≤ x ∧ x < m.w ∧ 0 ≤ y ∧ y < m.h) := by
  rw [← insM_T]; cases insM m x y <;> simp
theorem atI {m : Mk} {x y : Int} (h : mchkE m = 0) (hc : insM m x y = true) : 0 ≤ y * m.w ∧ y * m.w ≤ 65536 ∧ 0 ≤ y * m.w + x ∧ y * m.w + x < (m.v.length : Int) ∧ (m.v.length : Int) ≤ 65536 := by
  have h1 := mchk0 h; have h2 := insM_T.1 hc
  have hz := h1.1
  have h3 := yxI (y := y.toNat) (x := x.toNat) hz (by omega) (by omega)
  have h4 := nn_bd hz
  have e : ((y.toNat : Nat) : Int) = y := by omega
  have e2 : ((x.toNat : Nat) : Int) = x := by omega
  rw [e, e2] at h3
  have := h1.2.2.1
  omega
theorem at2 {m : Mk} {x y : Int} (h : mchkE m = 0) (hc : insM m x y = true) : m.v.getD (y * m.w + x).toNat 0 = atM m x y := by
  rw [atM, if_pos h, pickM, if_pos hc]
/-! ### Rect -/
theorem mr1 {w h : Int} {r : Rc} (hc : ¬ sizedE w h = 0) : mrectR w h r = ⟨0, 0, []⟩ ∧ mrectE w h r = sizedE w h := by
  have e := sizedE_1 hc
  have e1 : mrectE w h r = 15 := by rw [mrectE, e]; rfl
  exact ⟨by rw [mrectR, e1]; rfl, by rw [e1, sizedE, e]; rfl⟩
theorem mr2 {w h : Int} {r : Rc} (h0 : SzOk w h) (hc : validB r = false) : mrectR w h r = ⟨0, 0, []⟩ ∧ mrectE w h r = 2 := by
  have e1 : mrectE w h r = 2 := by rw [mrectE, sized_T.2 h0, hc]; rfl
  exact ⟨by rw [mrectR, e1]; rfl, e1⟩
theorem mr3 {w h : Int} {r : Rc} (h0 : SzOk w h) (hc : validB r = true) : mrectR w h r = ⟨w, h, tab (nn w h) (gF w.toNat (rF r))⟩ ∧ mrectE w h r = 0 := by
  have e1 : mrectE w h r = 0 := by rw [mrectE, sized_T.2 h0, hc]; rfl
  exact ⟨by rw [mrectR, e1]; rfl, e1⟩
/-- The rectangle p, painted up to the row Y and the column X. -/
def rcK (w h : Int) (p : Rc) (Y X : Int) : List Int := tab (nn w h) fun k =>
  if hasB p ⟨((k % w.toNat : Nat) : Int), ((k / w.toNat : Nat) : Int)⟩ = true ∧ (((k / w.toNat : Nat) : Int) < Y ∨ ((k / w.toNat : Nat) : Int) = Y ∧ ((k % w.toNat : Nat) : Int) < X) then 65535 else 0
theorem rcK_0 {w h : Int} {p : Rc} : List.replicate (nn w h) 0 = rcK w h p p.y p.x := by
  rw [fil_0 (nn w h) (fun _ => 0), fil, rcK]
  apply tab_ext
  intro k _
  rw [if_neg (by omega), if_neg]
  rintro ⟨g, q⟩
  have := has_spec.1 g
  simp only at this; omega
theorem rcK_row {w h : Int} {p : Rc} {Y X : Int} (hX : p.x + p.w ≤ X) : rcK w h p Y X = rcK w h p (Y + 1) p.x := by
  unfold rcK
  apply tab_ext
  intro k _
  congr 1
  apply propext
  constructor
  · rintro ⟨g, q⟩; exact ⟨g, by omega⟩
  · rintro ⟨g, q⟩
    have := has_spec.1 g
    simp only at this
    exact ⟨g, by omega⟩
theorem kdm {w y x : Nat} (hx : x < w) (k : Nat) : k = y * w + x ↔ k / w = y ∧ k % w = x := by
  constructor
  · rintro rfl
    rw [Nat.mul_comm y, Nat.mul_add_mod, Nat.mod_eq_of_lt hx, Nat.mul_add_div (by omega), Nat.div_eq_of_lt hx]; simp
  · rintro ⟨rfl, rfl⟩
    have := Nat.div_add_mod k w
    rw [Nat.mul_comm] at this; omega
theorem rcK_set {w h : Int} {p : Rc} {Y X : Nat} (hp : hasB p ⟨(X : Int), (Y : Int)⟩ = true) (hx : (X : Int) < w) : (rcK w h p Y X).set (Y * w.toNat + X) 65535 = rcK w h p Y (X + 1) := by
  unfold rcK
  rw [tab_set]
  apply tab_ext
  intro k _
  by_cases e : k = Y * w.toNat + X
  · have g := (kdm (by omega) k).1 e
    rw [if_pos e, g.1, g.2, if_pos ⟨hp, by omega⟩]
  · rw [if_neg e]
    have g : ¬ (k / w.toNat = Y ∧ k % w.toNat = X) := fun q => e ((kdm (by omega) k).2 q)
    congr 1
    apply propext
    constructor
    · rintro ⟨g1, q⟩; exact ⟨g1, by omega⟩
    · rintro ⟨g1, q⟩; exact ⟨g1, by omega⟩
theorem rcK_all {w h : Int} {r : Rc} {Y X : Int} (hz : SzOk w h) (hY : (meetR r ⟨0, 0, w, h⟩).y + (meetR r ⟨0, 0, w, h⟩).h ≤ Y) : rcK w h (meetR r ⟨0, 0, w, h⟩) Y X = tab (nn w h) (gF w.toNat (rF r)) := by
  unfold rcK
  apply tab_ext
  intro k hk
  unfold SzOk at hz
  have b := kwh (k := k) (w := w) (h := h) (by omega) (by omega) (by have := nnE (w := w) (h := h) (by unfold Z0; omega); omega)
  rw [gF, rF]
  generalize k % w.toNat = p at b ⊢
  generalize k / w.toNat = q at b ⊢
  have hin : hasB (⟨0, 0, w, h⟩ : Rc) ⟨(p : Int), (q : Int)⟩ = true := has_spec.2 ⟨empty_spec.2 (by simp only; omega), by simp only; omega⟩
  have hm := meet_has r ⟨0, 0, w, h⟩ ⟨(p : Int), (q : Int)⟩
  rw [hin, Bool.and_true] at hm
  rw [hm]
  congr 1
  apply propext
  constructor
  · exact fun g => g.1
  · intro g
    rw [← hm] at g
    have := has_spec.1 g
    exact ⟨by rw [← hm]; exact g, by simp only at this; omega⟩
/-! ### Counting samples -/
theorem cnt2_succ (g : Nat → Nat → Bool) (j i : Nat) : cnt2 g j (i + 1) = cnt2 g j i + b2i (g j i) := by
  simp only [cnt2, List.range_succ, List.map_append, List.sum_append, List.map_cons, List.map_nil, List.sum_cons, List.sum_nil]; omega
theorem cnt2_over (g : Nat → Nat → Bool) {j i : Nat} (hi : i = 16) : cnt2 g j i = cnt2 g (j + 1) 0 := by
  subst hi
  simp only [cnt2, List.range_succ (n := j), List.map_append, List.sum_append, List.map_cons, List.map_nil, List.sum_cons, List.sum_nil, List.range_zero]; omega
theorem cnt2_bd (g : Nat → Nat → Bool) : ∀ (j i : Nat), i ≤ 16 → 0 ≤ cnt2 g j i ∧ cnt2 g j i ≤ 16 * j + i
  | 0, 0, _ => by simp [cnt2]
  | j + 1, 0, _ => by
    have := cnt2_bd g j 16 (by omega)
    rw [← cnt2_over g (i := 16) rfl]; omega
  | j, i + 1, h => by
    have := cnt2_bd g j i (by omega); have := b2i_01 (g j i)
    rw [cnt2_succ]; omega
theorem cnt2_skip {g : Nat → Nat → Bool} {j : Nat} (h : ∀ i, i < 16 → g j i = false) : ∀ i, i ≤ 16 → cnt2 g j i = cnt2 g j 0
  | 0, _ => rfl
  | i + 1, hi => by rw [cnt2_succ, h i (by omega), cnt2_skip h i (by omega)]; simp [b2i]
theorem cnt2_row {g : Nat → Nat → Bool} {j : Nat} (h : ∀ i, i < 16 → g j i = false) : cnt2 g j 0 = cnt2 g (j + 1) 0 := by
  rw [← cnt2_over g (i := 16) rfl, cnt2_skip h 16 (by omega)]
end Go.Rect

set_option linter.unusedSimpArgs false
set_option linter.unusedVariables false
namespace Go.Rect
open Go.Eng
theorem uf {n : Int} (hc : n < 0 ∨ 65535 < n) : unitB n = false := by rw [Bool.eq_false_iff]; intro g; simp only [unitB, Bool.and_eq_true, decide_eq_true_eq] at g; omega
theorem ut {n : Int} (hc : 0 ≤ n ∧ n ≤ 65535) : unitB n = true := by simp only [unitB, Bool.and_eq_true, decide_eq_true_eq]; omega
theorem nw1r {w h v : Int} (hc : sizedB w h = false) : newR w h v = ⟨0, 0, []⟩ ∧ newE w h v = 15 := by
  have e1 : newE w h v = 15 := by rw [newE, hc]; rfl
  exact ⟨by rw [newR, e1]; rfl, e1⟩
theorem nw2r {w h v : Int} (h0 : sizedB w h = true) (hc : v < 0 ∨ 65535 < v) : newR w h v = ⟨0, 0, []⟩ ∧ newE w h v = 2 := by
  have e1 : newE w h v = 2 := by rw [newE, h0, uf hc]; rfl
  exact ⟨by rw [newR, e1]; rfl, e1⟩
theorem nw3r {w h v : Int} {k : Nat} (h0 : SzOk w h) (hu : unitB v = true) (hI : k ≤ nn w h) (hc : ((nn w h : Nat) : Int) ≤ (k : Int)) : newR w h v = ⟨w, h, tab k (gF w.toNat fun _ _ => v)⟩ ∧ newE w h v = 0 := by
  have e1 : newE w h v = 0 := by rw [newE, sized_T.2 h0, hu]; rfl
  have : k = nn w h := by omega
  exact ⟨by rw [newR, e1, this]; rfl, e1⟩
theorem pk1 {m : Mk} {x y : Int} (hc : ((x < 0 ∨ m.w ≤ x) ∨ y < 0) ∨ m.h ≤ y) : 0 = pickM m x y := by
  rw [pickM, if_neg (by rw [insM_F.2 (by omega)]; decide)]
theorem pk0 {m : Mk} {x y : Int} (hc : ((0 ≤ x ∧ x < m.w) ∧ 0 ≤ y) ∧ y < m.h) : insM m x y = true := insM_T.2 (by omega)
theorem pk2 {m : Mk} {x y : Int} (hc : ((0 ≤ x ∧ x < m.w) ∧ 0 ≤ y) ∧ y < m.h) : m.v.getD (y * m.w + x).toNat 0 = pickM m x y := by rw [pickM, if_pos (pk0 hc)]
theorem at3 {m : Mk} {x y : Int} (h : mchkE m = 0) : pickM m x y = atM m x y := by rw [atM, if_pos h]
theorem unImN : unIm [.i 0, .i 0, .v (.slice none 0 0)] = ⟨0, 0, []⟩ := rfl
theorem unIm0 (w h : Int) : unIm [.i w, .i h, .sl 4 []] = ⟨w, h, []⟩ := rfl
theorem unPtV (x y : Int) : unPt [.i x, .i y] = ⟨x, y⟩ := rfl
theorem tkFil (n : Nat) (f : Nat → Int) (k : Nat) : ((fil n f k).map iC).take n = (fil n f k).map iC := List.take_of_length_le (by simp [fil_len])
theorem tabP_len (n : Nat) (f : Nat → Px) : (tabP n f).length = n := by simp [tabP]
/-- A table of pixels that is filled up to k, above what was there. -/
def filP (n : Nat) (f g : Nat → Px) (k : Nat) : List Px := tabP n fun i => if i < k then f i else g i
theorem filP_len (n : Nat) (f g : Nat → Px) (k : Nat) : (filP n f g k).length = n := tabP_len _ _
end Go.Rect

set_option linter.unusedSimpArgs false
set_option linter.unusedVariables false
namespace Go.Rect
open Go.Eng
theorem mkEta (m : Mk) : (⟨m.w, m.h, m.v⟩ : Mk) = m := rfl
theorem imEta (m : Im) : (⟨m.w, m.h, m.p⟩ : Im) = m := rfl
theorem unRcV (x y w h : Int) : unRc [.i x, .i y, .i w, .i h] = ⟨x, y, w, h⟩ := rfl
theorem rcEta (r : Rc) : (⟨r.x, r.y, r.w, r.h⟩ : Rc) = r := rfl
theorem ptEta (r : Pt) : (⟨r.x, r.y⟩ : Pt) = r := rfl
/-! ### Rect -/
theorem meet_bd (a b : Rc) : -1048576 ≤ (meetR a b).x ∧ (meetR a b).x ≤ 1048576 ∧ 0 ≤ (meetR a b).w ∧ (meetR a b).w ≤ 2097152 ∧ -1048576 ≤ (meetR a b).y ∧ (meetR a b).y ≤ 1048576 ∧ 0 ≤ (meetR a b).h ∧ (meetR a b).h ≤ 2097152 := by
  rcases meet_cases a b with ⟨e, _⟩ | ⟨h1, h2, h3, _⟩
  · rw [e]; simp [zR]
  · have := empty_spec.1 h3; omega
theorem rcIx {w h x y : Int} {r : Rc} (hs : SzOk w h) (hy1 : (meetR r ⟨0, 0, w, h⟩).y ≤ y) (hy2 : y < (meetR r ⟨0, 0, w, h⟩).y + (meetR r ⟨0, 0, w, h⟩).h) (hx1 : (meetR r ⟨0, 0, w, h⟩).x ≤ x) (hx2 : x < (meetR r ⟨0, 0, w, h⟩).x + (meetR r ⟨0, 0, w, h⟩).w) :
    IntKind.i64.wrap (IntKind.i64.wrap (y * w) + x) = ((y.toNat * w.toNat + x.toNat : Nat) : Int) ∧ y.toNat * w.toNat + x.toNat < nn w h ∧ ((rcK w h (meetR r ⟨0, 0, w, h⟩) y x).set (y.toNat * w.toNat + x.toNat) 65535).map iC = (rcK w h (meetR r ⟨0, 0, w, h⟩) y (x + 1)).map iC := by
  have hz := sz_z hs
  unfold SzOk at hs
  rcases meet_cases r ⟨0, 0, w, h⟩ with ⟨e, _⟩ | ⟨h1, h2, h3, h4, h5, h6, h7⟩
  · rw [e] at hy1 hy2; simp only [zR] at hy1 hy2; omega
  · simp only at h4 h5 h6 h7
    generalize hP : meetR r ⟨0, 0, w, h⟩ = P at *
    have ey : ((y.toNat : Nat) : Int) = y := by omega
    have ex : ((x.toNat : Nat) : Int) = x := by omega
    have hi := yxI (y := y.toNat) (x := x.toNat) hz (by omega) (by omega)
    have hw := yxW (y := y.toNat) (x := x.toNat) hz (by omega) (by omega)
    have hh : hasB P ⟨((x.toNat : Nat) : Int), ((y.toNat : Nat) : Int)⟩ = true := has_spec.2 ⟨h3, by simp only; omega⟩
    have hset := rcK_set (w := w) (h := h) (Y := y.toNat) (X := x.toNat) hh (by omega)
    rw [ey, ex] at hw hset
    exact ⟨hw, hi.2.1, by rw [hset]⟩
theorem rcK_len (w h : Int) (p : Rc) (Y X : Int) : (rcK w h p Y X).length = nn w h := tab_len _ _
theorem mr1r {w h : Int} {r : Rc} (hc : sizedB w h = false) : mrectR w h r = ⟨0, 0, []⟩ ∧ mrectE w h r = 15 := by
  have e1 : mrectE w h r = 15 := by rw [mrectE, hc]; rfl
  exact ⟨by rw [mrectR, e1]; rfl, e1⟩
theorem rF1 {r : Rc} {x y : Int} (hc : hasB r ⟨x, y⟩ = true) : 65535 = rF r x y := by rw [rF, hc]; rfl
theorem rF0 {r : Rc} {x y : Int} (hc : hasB r ⟨x, y⟩ = false) : 0 = rF r x y := by rw [rF, hc]; rfl
theorem yall {w h : Int} {y : Nat} {f : Nat → Int} (hY : y ≤ h.toNat) (hc : h ≤ (y : Int)) : tab (y * w.toNat) f = tab (nn w h) f := by
  have : y = h.toNat := by omega
  rw [this, nn, Nat.mul_comm]
theorem fall {w h : Int} {y : Nat} {f : Nat → Int} (hY : y ≤ h.toNat) (hc : h ≤ (y : Int)) : fil (nn w h) f (y * w.toNat) = tab (nn w h) f := by
  have : y = h.toNat := by omega
  exact fil_all (by rw [this, nn, Nat.mul_comm]; exact Nat.le_refl _)
theorem ap_b {w h : Int} {y x : Nat} (hz : Z0 w h) (hy : (y : Int) < h) (hx : (x : Int) < w) : (y * w.toNat + x + 1) * 8 ≤ 140737488355328 := by
  have := yxI hz hy hx; omega
/-! ### Ellipse -/
def ElOk (r : Rc) : Prop := -1048576 ≤ r.x ∧ r.x ≤ 1048576 ∧ 0 < r.w ∧ r.w ≤ 1024 ∧ -1048576 ≤ r.y ∧ r.y ≤ 1048576 ∧ 0 < r.h ∧ r.h ≤ 1024 ∧ r.x + r.w ≤ 1048576 ∧ r.y + r.h ≤ 1048576
theorem vR (r : Rc) (y : Int) (j : Nat) : True := trivial
theorem rnd_out {r : Rc} {x y : Int} {j : Nat} (hc : 2 * (16 * y + (j : Int)) + 1 - 16 * (2 * r.y + r.h) < 0 - 16 * r.h ∨ 16 * r.h < 2 * (16 * y + (j : Int)) + 1 - 16 * (2 * r.y + r.h)) : ∀ i, i < 16 → rndG r x y j i = false := by
  intro i _
  rw [Bool.eq_false_iff]; intro g
  simp only [rndG, rndB, Bool.and_eq_true, decide_eq_true_eq] at g
  omega
theorem sq4 {u b B A : Int} (hu : -A ≤ u) (hu2 : u ≤ A) (hA : A ≤ 16384) (hb : 0 ≤ b) (hb2 : b ≤ B) (hB : B ≤ 16384) : (-268435456 ≤ u * b ∧ u * b ≤ 268435456) ∧ (-4398046511104 ≤ u * b * u ∧ u * b * u ≤ 4398046511104) ∧ (-72057594037927936 ≤ u * b * u * b ∧ u * b * u * b ≤ 72057594037927936) := by
  have h1 : (u * b).natAbs ≤ 16384 * 16384 := by rw [Int.natAbs_mul]; exact Nat.mul_le_mul (by omega) (by omega)
  have h2 : (u * b * u).natAbs ≤ 16384 * 16384 * 16384 := by rw [Int.natAbs_mul]; exact Nat.mul_le_mul h1 (by omega)
  have h3 : (u * b * u * b).natAbs ≤ 16384 * 16384 * 16384 * 16384 := by rw [Int.natAbs_mul]; exact Nat.mul_le_mul h2 (by omega)
  omega
theorem wr4 {u b A B : Int} (hu : -A ≤ u) (hu2 : u ≤ A) (hA : A ≤ 16384) (hb : 0 ≤ b) (hb2 : b ≤ B) (hB : B ≤ 16384) : IntKind.i64.wrap (IntKind.i64.wrap (IntKind.i64.wrap (u * b) * u) * b) = u * b * u * b := by
  have h := sq4 hu hu2 hA hb hb2 hB
  rw [w64 (n := u * b) (by omega) (by omega), w64 (n := u * b * u) (by omega) (by omega), w64 (by omega) (by omega)]
theorem ell_w {u v a b : Int} (hu : -a ≤ u) (hu2 : u ≤ a) (hv : -b ≤ v) (hv2 : v ≤ b) (ha : 0 ≤ a) (ha2 : a ≤ 16384) (hb : 0 ≤ b) (hb2 : b ≤ 16384) :
    IntKind.i64.wrap (IntKind.i64.wrap (IntKind.i64.wrap (IntKind.i64.wrap (u * b) * u) * b) + IntKind.i64.wrap (IntKind.i64.wrap (IntKind.i64.wrap (v * a) * v) * a)) = u * b * u * b + v * a * v * a ∧
    IntKind.i64.wrap (IntKind.i64.wrap (IntKind.i64.wrap (a * b) * a) * b) = a * b * a * b := by
  have h1 := sq4 hu hu2 ha2 hb (Int.le_refl b) hb2; have h2 := sq4 hv hv2 hb2 ha (Int.le_refl a) ha2
  rw [wr4 hu hu2 ha2 hb (Int.le_refl b) hb2, wr4 hv hv2 hb2 ha (Int.le_refl a) ha2, wr4 (A := a) (by omega) (by omega) ha2 hb (Int.le_refl b) hb2]
  exact ⟨w64 (by omega) (by omega), rfl⟩
theorem rnd_1 {r : Rc} {x y : Int} {j i : Nat} (hr : 0 < r.w ∧ r.w ≤ 1024 ∧ 0 < r.h ∧ r.h ≤ 1024) (hv : 0 - 16 * r.h ≤ (2 * (16 * y + (j : Int)) + 1 - 16 * (2 * r.y + r.h)) ∧ (2 * (16 * y + (j : Int)) + 1 - 16 * (2 * r.y + r.h)) ≤ 16 * r.h) (hc : (0 - 16 * r.w ≤ (2 * (16 * x + (i : Int)) + 1 - 16 * (2 * r.x + r.w)) ∧ (2 * (16 * x + (i : Int)) + 1 - 16 * (2 * r.x + r.w)) ≤ 16 * r.w) ∧ IntKind.i64.wrap (IntKind.i64.wrap (IntKind.i64.wrap (IntKind.i64.wrap ((2 * (16 * x + (i : Int)) + 1 - 16 * (2 * r.x + r.w)) * (16 * r.h)) * (2 * (16 * x + (i : Int)) + 1 - 16 * (2 * r.x + r.w))) * (16 * r.h)) + IntKind.i64.wrap (IntKind.i64.wrap (IntKind.i64.wrap ((2 * (16 * y + (j : Int)) + 1 - 16 * (2 * r.y + r.h)) * (16 * r.w)) * (2 * (16 * y + (j : Int)) + 1 - 16 * (2 * r.y + r.h))) * (16 * r.w))) ≤ IntKind.i64.wrap (IntKind.i64.wrap (IntKind.i64.wrap (16 * r.w * (16 * r.h)) * (16 * r.w)) * (16 * r.h))) : rndG r x y j i = true := by
  have h := ell_w (u := (2 * (16 * x + (i : Int)) + 1 - 16 * (2 * r.x + r.w))) (v := (2 * (16 * y + (j : Int)) + 1 - 16 * (2 * r.y + r.h))) (a := 16 * r.w) (b := 16 * r.h) (by omega) (by omega) (by omega) (by omega) (by omega) (by omega) (by omega) (by omega)
  rw [h.1, h.2] at hc
  simp only [rndG, rndB, Bool.and_eq_true, decide_eq_true_eq]
  exact ⟨⟨⟨⟨by omega, by omega⟩, by omega⟩, by omega⟩, hc.2⟩
theorem rnd_0 {r : Rc} {x y : Int} {j i : Nat} (hr : 0 < r.w ∧ r.w ≤ 1024 ∧ 0 < r.h ∧ r.h ≤ 1024) (hv : 0 - 16 * r.h ≤ (2 * (16 * y + (j : Int)) + 1 - 16 * (2 * r.y + r.h)) ∧ (2 * (16 * y + (j : Int)) + 1 - 16 * (2 * r.y + r.h)) ≤ 16 * r.h) (hc : (decide (0 - 16 * r.w ≤ (2 * (16 * x + (i : Int)) + 1 - 16 * (2 * r.x + r.w))) && decide ((2 * (16 * x + (i : Int)) + 1 - 16 * (2 * r.x + r.w)) ≤ 16 * r.w) && decide (IntKind.i64.wrap (IntKind.i64.wrap (IntKind.i64.wrap (IntKind.i64.wrap ((2 * (16 * x + (i : Int)) + 1 - 16 * (2 * r.x + r.w)) * (16 * r.h)) * (2 * (16 * x + (i : Int)) + 1 - 16 * (2 * r.x + r.w))) * (16 * r.h)) + IntKind.i64.wrap (IntKind.i64.wrap (IntKind.i64.wrap ((2 * (16 * y + (j : Int)) + 1 - 16 * (2 * r.y + r.h)) * (16 * r.w)) * (2 * (16 * y + (j : Int)) + 1 - 16 * (2 * r.y + r.h))) * (16 * r.w))) ≤ IntKind.i64.wrap (IntKind.i64.wrap (IntKind.i64.wrap (16 * r.w * (16 * r.h)) * (16 * r.w)) * (16 * r.h)))) = false) : rndG r x y j i = false := by
  rw [Bool.eq_false_iff]; intro g
  simp only [rndG, rndB, Bool.and_eq_true, decide_eq_true_eq] at g
  have h := ell_w (u := (2 * (16 * x + (i : Int)) + 1 - 16 * (2 * r.x + r.w))) (v := (2 * (16 * y + (j : Int)) + 1 - 16 * (2 * r.y + r.h))) (a := 16 * r.w) (b := 16 * r.h) (by omega) (by omega) (by omega) (by omega) (by omega) (by omega) (by omega) (by omega)
  rw [h.1, h.2] at hc
  rw [Bool.eq_false_iff] at hc
  apply hc
  simp only [Bool.and_eq_true, decide_eq_true_eq]
  exact ⟨⟨by omega, by omega⟩, g.2⟩
theorem el1 {w h : Int} {r : Rc} (hc : ¬ sizedE w h = 0) : ellR w h r = ⟨0, 0, []⟩ ∧ ellE w h r = sizedE w h := by
  have e := sizedE_1 hc
  have e1 : ellE w h r = 15 := by rw [ellE, e]; rfl
  exact ⟨by rw [ellR, e1]; rfl, by rw [e1, sizedE, e]; rfl⟩
theorem el1r {w h : Int} {r : Rc} (hc : sizedB w h = false) : ellR w h r = ⟨0, 0, []⟩ ∧ ellE w h r = 15 := by
  have e1 : ellE w h r = 15 := by rw [ellE, hc]; rfl
  exact ⟨by rw [ellR, e1]; rfl, e1⟩
theorem el2 {w h : Int} {r : Rc} (h0 : SzOk w h) (hc : (validB r = false ∨ 1024 < r.w) ∨ 1024 < r.h) : ellR w h r = ⟨0, 0, []⟩ ∧ ellE w h r = 2 := by
  have e : (validB r && decide (r.w ≤ 1024) && decide (r.h ≤ 1024)) = false := by
    rw [Bool.eq_false_iff]; intro g
    simp only [Bool.and_eq_true, decide_eq_true_eq] at g
    rcases hc with (hc | hc) | hc
    · rw [hc] at g; exact absurd g.1.1 (by decide)
    · omega
    · omega
  have e1 : ellE w h r = 2 := by rw [ellE, sized_T.2 h0, e]; rfl
  exact ⟨by rw [ellR, e1]; rfl, e1⟩
theorem el3 {w h : Int} {r : Rc} (h0 : SzOk w h) (hc : (validB r = true ∧ r.w ≤ 1024) ∧ r.h ≤ 1024) : ellR w h r = ⟨w, h, tab (nn w h) (gF w.toNat (eF r))⟩ ∧ ellE w h r = 0 := by
  have e : (validB r && decide (r.w ≤ 1024) && decide (r.h ≤ 1024)) = true := by simp [hc]
  have e1 : ellE w h r = 0 := by rw [ellE, sized_T.2 h0, e]; rfl
  exact ⟨by rw [ellR, e1]; rfl, e1⟩
theorem rep_tab (n : Nat) : List.replicate n (0 : Int) = tab n fun _ => 0 := by
  rw [fil_0 n (fun _ => 0), fil]; apply tab_ext; intro k _; simp
theorem el4 {w h : Int} {r : Rc} (h0 : SzOk w h) (hv : (validB r = true ∧ r.w ≤ 1024) ∧ r.h ≤ 1024) (hc : emptyB r = true) : ellR w h r = ⟨w, h, List.replicate (nn w h) 0⟩ ∧ ellE w h r = 0 := by
  have h1 := el3 h0 hv
  refine ⟨?_, h1.2⟩
  rw [h1.1, rep_tab]
  congr 1
  apply tab_ext; intro k _; rw [gF, eF, hc]; rfl
theorem elOk {r : Rc} (hv : (validB r = true ∧ r.w ≤ 1024) ∧ r.h ≤ 1024) (hc : emptyB r = false) : ElOk r := by
  have := empty_spec.1 hc; unfold ElOk; omega
theorem eFE {r : Rc} (hr : ElOk r) (x y : Int) : divI (65535 * sampI r x y) 256 = eF r x y := by
  have : emptyB r = false := empty_spec.2 (by unfold ElOk at hr; omega)
  rw [eF, this]; rfl
end Go.Rect

set_option linter.unusedSimpArgs false
set_option linter.unusedVariables false
namespace Go.Rect
open Go.Eng
/-! ### The reference's ellipse -/
theorem rd1 {r : Rc} {x y : Int} (hc : (((2 * x + 1 - 16 * (2 * r.x + r.w)) < 0 - 16 * r.w ∨ 16 * r.w < (2 * x + 1 - 16 * (2 * r.x + r.w))) ∨ (2 * y + 1 - 16 * (2 * r.y + r.h)) < 0 - 16 * r.h) ∨ 16 * r.h < (2 * y + 1 - 16 * (2 * r.y + r.h))) : false = rndB r x y := by
  symm; rw [Bool.eq_false_iff]; intro g
  simp only [rndB, Bool.and_eq_true, decide_eq_true_eq] at g
  omega
theorem rd2 {r : Rc} {x y : Int} (hr : 0 < r.w ∧ r.w ≤ 1024 ∧ 0 < r.h ∧ r.h ≤ 1024) (hc : ((0 - 16 * r.w ≤ (2 * x + 1 - 16 * (2 * r.x + r.w)) ∧ (2 * x + 1 - 16 * (2 * r.x + r.w)) ≤ 16 * r.w) ∧ 0 - 16 * r.h ≤ (2 * y + 1 - 16 * (2 * r.y + r.h))) ∧ (2 * y + 1 - 16 * (2 * r.y + r.h)) ≤ 16 * r.h) : decide (IntKind.i64.wrap (IntKind.i64.wrap (IntKind.i64.wrap (IntKind.i64.wrap ((2 * x + 1 - 16 * (2 * r.x + r.w)) * (16 * r.h)) * (2 * x + 1 - 16 * (2 * r.x + r.w))) * (16 * r.h)) + IntKind.i64.wrap (IntKind.i64.wrap (IntKind.i64.wrap ((2 * y + 1 - 16 * (2 * r.y + r.h)) * (16 * r.w)) * (2 * y + 1 - 16 * (2 * r.y + r.h))) * (16 * r.w))) ≤ IntKind.i64.wrap (IntKind.i64.wrap (IntKind.i64.wrap (16 * r.w * (16 * r.h)) * (16 * r.w)) * (16 * r.h))) = rndB r x y := by
  have h := ell_w (u := (2 * x + 1 - 16 * (2 * r.x + r.w))) (v := (2 * y + 1 - 16 * (2 * r.y + r.h))) (a := 16 * r.w) (b := 16 * r.h) (by omega) (by omega) (by omega) (by omega) (by omega) (by omega) (by omega) (by omega)
  rw [h.1, h.2, Bool.eq_iff_iff]
  simp only [rndB, Bool.and_eq_true, decide_eq_true_eq]
  constructor
  · intro g; exact ⟨⟨⟨⟨by omega, by omega⟩, by omega⟩, by omega⟩, g⟩
  · intro g; exact g.2
def rndE (r : Rc) (x y : Int) (j i : Nat) : Bool := !emptyB r && rndG r x y j i
theorem re_1 {r : Rc} {x y : Int} {j i : Nat} (hc : emptyB r = false ∧ rndB r (16 * x + i) (16 * y + j) = true) : rndE r x y j i = true := by
  rw [rndE, hc.1, rndG, hc.2]; rfl
theorem re_0 {r : Rc} {x y : Int} {j i : Nat} (hc : (!emptyB r && rndB r (16 * x + i) (16 * y + j)) = false) : rndE r x y j i = false := hc
theorem eFE2 {r : Rc} {x y : Int} : divI (65535 * cnt2 (rndE r x y) 16 0) 256 = eF r x y := by
  unfold eF
  cases h : emptyB r
  · have : rndE r x y = rndG r x y := by funext j i; rw [rndE, h]; rfl
    rw [this]; rfl
  · have : cnt2 (rndE r x y) 16 0 = 0 := by
      have e : rndE r x y = fun _ _ => false := by funext j i; rw [rndE, h]; rfl
      rw [e]; rfl
    rw [this]; rfl
/-! ### Combine -/
def orM (a b : Mk) : Mk := if a.w = 0 then grid b.w b.h (fun _ _ => 65535) else a
theorem orM1 {a b : Mk} (h : a.w = 0) : orM a b = grid b.w b.h (fun _ _ => 65535) := by rw [orM, if_pos h]
theorem orM0 {a b : Mk} (h : ¬ a.w = 0) : orM a b = a := by rw [orM, if_neg h]
theorem orMw1 {a b : Mk} (h : a.w = 0) : b.w = (orM a b).w := by rw [orM1 h]; rfl
theorem orMh1 {a b : Mk} (h : a.w = 0) : b.h = (orM a b).h := by rw [orM1 h]; rfl
theorem orMv1 {a b : Mk} (h : a.w = 0) : (tab (nn b.w b.h) (gF b.w.toNat fun _ _ => 65535)).map iC = (orM a b).v.map iC := by rw [orM1 h]; rfl
theorem orMw0 {a b : Mk} (h : ¬ a.w = 0) : a.w = (orM a b).w := by rw [orM0 h]
theorem orMh0 {a b : Mk} (h : ¬ a.w = 0) : a.h = (orM a b).h := by rw [orM0 h]
theorem orMv0 {a b : Mk} (h : ¬ a.w = 0) : a.v.map iC = (orM a b).v.map iC := by rw [orM0 h]
theorem cb1 {a b : Mk} {how : Int} (hc : ¬ mchkE a = 0) : combR a b how = ⟨0, 0, []⟩ ∧ combE a b how = mchkE a := by
  have e : combE a b how = mchkE a := by rw [combE, if_pos hc]
  exact ⟨by rw [combR, if_neg (by rw [e]; exact hc)]; rfl, e⟩
theorem cb2 {a b : Mk} {how : Int} (ha : mchkE a = 0) (hc : ¬ mchkE b = 0) : combR a b how = ⟨0, 0, []⟩ ∧ combE a b how = mchkE b := by
  have e : combE a b how = mchkE b := by rw [combE, if_neg (by simp [ha]), if_pos hc]
  exact ⟨by rw [combR, if_neg (by rw [e]; exact hc)]; rfl, e⟩
theorem cb3 {a b : Mk} {how : Int} (ha : mchkE a = 0) (hb : mchkE b = 0) (hc : how < 0 ∨ 4 < how) : combR a b how = ⟨0, 0, []⟩ ∧ combE a b how = 8 := by
  have e : combE a b how = 8 := by rw [combE, if_neg (by simp [ha]), if_neg (by simp [hb]), if_pos hc]
  exact ⟨by rw [combR, if_neg (by rw [e]; decide)]; rfl, e⟩
theorem cb0 {a b : Mk} {how : Int} (ha : mchkE a = 0) (hb : mchkE b = 0) (hw : 0 ≤ how ∧ how ≤ 4) : combE a b how = if a.w ≠ 0 ∧ b.w ≠ 0 ∧ (a.w ≠ b.w ∨ a.h ≠ b.h) then 15 else 0 := by
  rw [combE, if_neg (by simp [ha]), if_neg (by simp [hb]), if_neg (by omega)]
theorem cb4 {a b : Mk} {how : Int} (ha : mchkE a = 0) (hb : mchkE b = 0) (hw : 0 ≤ how ∧ how ≤ 4) (hc : a.w = 0 ∧ b.w = 0) : combR a b how = ⟨0, 0, []⟩ ∧ combE a b how = 0 := by
  have e : combE a b how = 0 := by rw [cb0 ha hb hw, if_neg (by omega)]
  have h1 := (mchk0 ha).2.1.1 hc.1; have h2 := (mchk0 hb).2.1.1 hc.2
  refine ⟨?_, e⟩
  rw [combR, if_pos e, hc.1, hc.2, h1, h2]; rfl
theorem cb6r {a b : Mk} {how : Int} {k : Nat} (ha : mchkE a = 0) (hb : mchkE b = 0) (hw : 0 ≤ how ∧ how ≤ 4) (hn : ¬ (¬ a.w = 0 ∧ ¬ b.w = 0 ∧ (¬ a.w = b.w ∨ ¬ a.h = b.h))) (hk : k = nn (max a.w b.w) (max a.h b.h)) : combR a b how = ⟨max a.w b.w, max a.h b.h, tab k (cF a b how)⟩ ∧ combE a b how = 0 := by
  have e : combE a b how = 0 := by rw [cb0 ha hb hw, if_neg hn]
  exact ⟨by rw [combR, if_pos e, hk], e⟩
theorem cb5r {a b : Mk} {how : Int} (ha : mchkE a = 0) (hb : mchkE b = 0) (hw : 0 ≤ how ∧ how ≤ 4) (hn : ¬ a.w = 0 ∧ ¬ b.w = 0 ∧ (¬ a.w = b.w ∨ ¬ a.h = b.h)) : combR a b how = ⟨0, 0, []⟩ ∧ combE a b how = 15 := by
  have e : combE a b how = 15 := by rw [cb0 ha hb hw, if_pos hn]
  exact ⟨by rw [combR, if_neg (by rw [e]; decide)]; rfl, e⟩
theorem nb {a b : Mk} (h : (a.w == 0 && b.w == 0) = false) : ¬ (a.w = 0 ∧ b.w = 0) := by
  rintro ⟨h1, h2⟩; simp [h1, h2] at h
theorem nb2 {a b : Mk} (h : (a.w != 0 && b.w != 0 && (a.w != b.w || a.h != b.h)) = false) : ¬ (¬ a.w = 0 ∧ ¬ b.w = 0 ∧ (¬ a.w = b.w ∨ ¬ a.h = b.h)) := by
  rintro ⟨h1, h2, h3⟩
  rcases h3 with h3 | h3 <;> simp [h1, h2, h3] at h
theorem orM_same {a b : Mk} (ha : mchkE a = 0) (hb : mchkE b = 0) (h : ¬ (a.w = 0 ∧ b.w = 0)) : ((orM a b).w = (orM b (orM a b)).w ∧ (orM a b).h = (orM b (orM a b)).h) ↔ ¬ (¬ a.w = 0 ∧ ¬ b.w = 0 ∧ (¬ a.w = b.w ∨ ¬ a.h = b.h)) := by
  by_cases h1 : a.w = 0
  · have h2 : ¬ b.w = 0 := fun g => h ⟨h1, g⟩
    rw [orM0 (b := orM a b) h2, orM1 h1]
    constructor
    · intro _ g; exact g.1 h1
    · intro _; exact ⟨rfl, rfl⟩
  · by_cases h2 : b.w = 0
    · rw [orM1 (a := b) h2, orM0 h1]
      constructor
      · intro _ g; exact g.2.1 h2
      · intro _; exact ⟨rfl, rfl⟩
    · rw [orM0 h1, orM0 h2]
      constructor
      · rintro ⟨g1, g2⟩ ⟨_, _, q⟩
        rcases q with q | q
        · exact q g1
        · exact q g2
      · intro g
        refine ⟨Classical.byContradiction fun q => g ⟨h1, h2, .inl q⟩, Classical.byContradiction fun q => g ⟨h1, h2, .inr q⟩⟩
theorem cb5 {a b : Mk} {how : Int} (ha : mchkE a = 0) (hb : mchkE b = 0) (hw : 0 ≤ how ∧ how ≤ 4) (hn : ¬ (a.w = 0 ∧ b.w = 0)) (hc : ¬ (orM a b).w = (orM b (orM a b)).w ∨ ¬ (orM a b).h = (orM b (orM a b)).h) : combR a b how = ⟨0, 0, []⟩ ∧ combE a b how = 15 := by
  apply cb5r ha hb hw
  apply Classical.byContradiction
  intro g
  have := (orM_same ha hb hn).2 g
  rcases hc with hc | hc
  · exact hc this.1
  · exact hc this.2
theorem orM_dim {a b : Mk} (ha : mchkE a = 0) (hb : mchkE b = 0) (hn : ¬ (a.w = 0 ∧ b.w = 0)) (hd : (orM a b).w = (orM b (orM a b)).w ∧ (orM a b).h = (orM b (orM a b)).h) : (orM a b).w = max a.w b.w ∧ (orM a b).h = max a.h b.h := by
  have h3 := (mchk0 ha); have h4 := mchk0 hb
  have z1 := h3.1; have z2 := h4.1
  unfold Z0 at z1 z2
  by_cases h1 : a.w = 0
  · rw [orM1 h1]
    have := h3.2.1.1 h1
    simp only [grid]; omega
  · by_cases h2 : b.w = 0
    · rw [orM0 h1]
      have := h4.2.1.1 h2
      omega
    · rw [orM0 h1, orM0 h2] at hd
      rw [orM0 h1]; omega
theorem cb6 {a b : Mk} {how : Int} (ha : mchkE a = 0) (hb : mchkE b = 0) (hw : 0 ≤ how ∧ how ≤ 4) (hn : ¬ (a.w = 0 ∧ b.w = 0)) (hd : (orM a b).w = (orM b (orM a b)).w ∧ (orM a b).h = (orM b (orM a b)).h) : combR a b how = ⟨(orM a b).w, (orM a b).h, tab (nn (orM a b).w (orM a b).h) (cF a b how)⟩ ∧ combE a b how = 0 := by
  have e := orM_dim ha hb hn hd
  rw [e.1, e.2]
  exact cb6r ha hb hw ((orM_same ha hb hn).1 hd) rfl
theorem orM_z {a b : Mk} (ha : mchkE a = 0) (hb : mchkE b = 0) : Z0 (orM a b).w (orM a b).h := by
  by_cases h1 : a.w = 0
  · rw [orM1 h1]; exact (mchk0 hb).1
  · rw [orM0 h1]; exact (mchk0 ha).1
theorem orM_l {a b : Mk} (ha : mchkE a = 0) (hb : mchkE b = 0) (hn : ¬ (a.w = 0 ∧ b.w = 0)) : (orM a b).v.length = nn (orM a b).w (orM a b).h := by
  by_cases h1 : a.w = 0
  · rw [orM1 h1]; simp only [grid, tab_len]
  · rw [orM0 h1]; exact (mchk0 ha).2.2.1
theorem orM_l2 {a b : Mk} (ha : mchkE a = 0) (hb : mchkE b = 0) (hn : ¬ (a.w = 0 ∧ b.w = 0)) (hd : (orM a b).w = (orM b (orM a b)).w ∧ (orM a b).h = (orM b (orM a b)).h) : (orM b (orM a b)).v.length = nn (orM a b).w (orM a b).h := by
  by_cases h2 : b.w = 0
  · rw [orM1 (a := b) h2]; simp only [grid, tab_len]
  · rw [hd.1, hd.2, orM0 (b := orM a b) h2]; exact (mchk0 hb).2.2.1
theorem orM_get {a b : Mk} {k : Nat} (hk : k < nn (orM a b).w (orM a b).h) : (orM a b).v.getD k 0 = orU a k := by
  by_cases h1 : a.w = 0
  · rw [orM1 h1] at hk ⊢
    simp only [grid] at hk ⊢
    rw [tab_getD hk, orU, if_pos h1]; rfl
  · rw [orM0 h1, orU, if_neg h1]
theorem orM_c {a b : Mk} {how : Int} {k : Nat} (ha : mchkE a = 0) (hb : mchkE b = 0) (hn : ¬ (a.w = 0 ∧ b.w = 0)) (hd : (orM a b).w = (orM b (orM a b)).w ∧ (orM a b).h = (orM b (orM a b)).h) (hk : k < nn (orM a b).w (orM a b).h) : comb ((orM a b).v.getD k 0) ((orM b (orM a b)).v.getD k 0) how = cF a b how k := by
  rw [orM_get hk, orM_get (a := b) (b := orM a b) (by rw [← hd.1, ← hd.2]; exact hk), cF]
theorem orU_bd {a : Mk} (ha : mchkE a = 0) (k : Nat) : 0 ≤ orU a k ∧ orU a k ≤ 65535 := by
  unfold orU; split
  · omega
  · exact (mchk0 ha).2.2.2 k
theorem orM_b {a b : Mk} (ha : mchkE a = 0) (k : Nat) : 0 ≤ (orM a b).v.getD k 0 ∧ (orM a b).v.getD k 0 ≤ 65535 := by
  by_cases h1 : a.w = 0
  · rw [orM1 h1]; simp only [grid]
    by_cases hk : k < nn b.w b.h
    · rw [tab_getD hk, gF]; omega
    · rw [List.getD_eq_getElem?_getD, List.getElem?_eq_none (by rw [tab_len]; omega)]; simp
  · rw [orM0 h1]; exact (mchk0 ha).2.2.2 k
theorem mx_z {a b : Mk} (ha : mchkE a = 0) (hb : mchkE b = 0) : Z0 (max a.w b.w) (max a.h b.h) := by
  have h1 := (mchk0 ha).1; have h2 := (mchk0 hb).1
  unfold Z0 at *; omega
theorem orU1 {a : Mk} {k : Nat} (hc : ¬ a.w = 0) : a.v.getD k 0 = orU a k := by rw [orU, if_neg hc]
theorem orU0 {a : Mk} {k : Nat} (hc : a.w = 0) : 65535 = orU a k := by rw [orU, if_pos hc]
theorem orU_k {a b : Mk} {k : Nat} (ha : mchkE a = 0) (hb : mchkE b = 0) (hn : ¬ (¬ a.w = 0 ∧ ¬ b.w = 0 ∧ (¬ a.w = b.w ∨ ¬ a.h = b.h))) (hc : ¬ a.w = 0) (hk : (k : Int) < ((nn (max a.w b.w) (max a.h b.h) : Nat) : Int)) : k < a.v.length := by
  have h3 := (mchk0 ha); have h4 := mchk0 hb
  have z1 := h3.1; have z2 := h4.1
  unfold Z0 at z1 z2
  rw [h3.2.2.1]
  have : max a.w b.w = a.w ∧ max a.h b.h = a.h := by
    by_cases h2 : b.w = 0
    · have := h4.2.1.1 h2; omega
    · have e : a.w = b.w ∧ a.h = b.h := ⟨Classical.byContradiction fun q => hn ⟨hc, h2, .inl q⟩, Classical.byContradiction fun q => hn ⟨hc, h2, .inr q⟩⟩
      omega
  rw [this.1, this.2] at hk; omega
theorem orU_k2 {a b : Mk} {k : Nat} (ha : mchkE a = 0) (hb : mchkE b = 0) (hn : ¬ (¬ a.w = 0 ∧ ¬ b.w = 0 ∧ (¬ a.w = b.w ∨ ¬ a.h = b.h))) (hc : ¬ b.w = 0) (hk : (k : Int) < ((nn (max a.w b.w) (max a.h b.h) : Nat) : Int)) : k < b.v.length := by
  refine orU_k hb ha (fun q => hn ⟨q.2.1, q.1, ?_⟩) hc (by rw [Int.max_comm, Int.max_comm b.h]; exact hk)
  rcases q.2.2 with q | q
  · exact .inl fun e => q e.symm
  · exact .inr fun e => q e.symm
def cm1 (p q how : Int) : Int := if how = 1 then max p q else q
def cm2 (p q how : Int) : Int := if how = 2 then min p (65535 - q) else cm1 p q how
def cm3 (p q how : Int) : Int := if how = 3 then min p q else cm2 p q how
theorem cmA {a b : Mk} {how : Int} {k : Nat} (hc : how = 4) : max (orU a k - orU b k) (orU b k - orU a k) = cF a b how k := by
  subst hc; rfl
theorem cmB {a b : Mk} {how : Int} {k : Nat} (hc : ¬ how = 4) : cm3 (orU a k) (orU b k) how = cF a b how k := by
  unfold cF comb cm3 cm2 cm1
  by_cases h1 : how = 1
  · subst h1; rfl
  · by_cases h2 : how = 2
    · subst h2; rfl
    · by_cases h3 : how = 3
      · subst h3; rfl
      · simp [h1, h2, h3, hc]
theorem iv1 {m : Mk} (hc : ¬ mchkE m = 0) : invR m = ⟨0, 0, []⟩ ∧ mchkE m = mchkE m := ⟨by rw [invR, if_neg hc]; rfl, rfl⟩
theorem iv2 {m : Mk} (hm : mchkE m = 0) : invR m = ⟨m.w, m.h, tab (nn m.w m.h) (iF m)⟩ ∧ mchkE m = 0 := ⟨by rw [invR, if_pos hm, (mchk0 hm).2.2.1], hm⟩
theorem iv2r {m : Mk} {k : Nat} (hm : mchkE m = 0) (hk : k = m.v.length) : invR m = ⟨m.w, m.h, tab k (iF m)⟩ ∧ mchkE m = 0 := ⟨by rw [invR, if_pos hm, hk], hm⟩
end Go.Rect

