import Derived.Test.YtnbeigcjhpldmaaGreatLA
set_option linter.unusedSimpArgs false
set_option linter.unusedVariables false
namespace Go.Rect
open Go.Eng
def canB (r : Rc) : Prop := emptyB r = true → r = zR
def sumK (a b : Rc) (k : Nat) : Int := areaI (meetR a b) + (((minusL a b).take k).map areaI).sum

def arT (r : Rc) (t : Pt) : Int := areaI (meetR (ofTileR t) r)
def sumT (r : Rc) (k : Nat) : Int := (((tilesL r).take k).map (arT r)).sum
def ov (x w t : Int) : Int := min (16 * t + 16) (x + w) - max (16 * t) x
def pre (x w : Int) (n : Nat) : Int := max 0 (min (16 * (tileI x + n)) (x + w) - x)
theorem grid_mem {x0 y0 : Int} {n : Nat} {t : Pt} : ∀ {m : Nat}, t ∈ gridL x0 y0 n m → x0 ≤ t.x ∧ t.x < x0 + n ∧ y0 ≤ t.y ∧ t.y < y0 + m
  | 0, h => by simp [gridL] at h
  | m + 1, h => by
    rw [gridL, List.mem_append] at h
    rcases h with h | h
    · have := grid_mem h; omega
    · simp only [rowL, List.mem_map, List.mem_range] at h
      obtain ⟨i, hi, rfl⟩ := h
      simp only; omega
theorem tiles_def {r : Rc} (h : tilesL r ≠ []) : emptyB r = false ∧ tilesL r = gridL (tileI r.x) (tileI r.y) (NX r) (NY r) := by
  unfold tilesL at h ⊢
  split at h
  · simp at h
  split at h
  · simp at h
  · rename_i h1 h2
    have h1 : emptyB r = false := by simpa using h1
    rw [if_neg (by simp [h1]), if_neg h2]
    exact ⟨h1, rfl⟩
theorem NN {r : Rc} (h : emptyB r = false) : (NX r : Int) = tileI (r.x + r.w - 1) - tileI r.x + 1 ∧ (NY r : Int) = tileI (r.y + r.h - 1) - tileI r.y + 1 := by
  have b := empty_spec.1 h
  unfold NX NY tileI; omega
theorem grid_len {x0 y0 : Int} {n : Nat} : ∀ {m : Nat}, (gridL x0 y0 n m).length = m * n
  | 0 => by simp [gridL]
  | m + 1 => by simp [gridL, rowL, grid_len (m := m), Nat.add_mul]
end Go.Rect

namespace Go.Rect
open Go.Eng
structure Px where
  r : Int
  g : Int
  b : Int
  a : Int
  deriving DecidableEq, Inhabited
def zP : Px := ⟨0, 0, 0, 0⟩
def pxC (p : Px) : List D := [.i p.r, .i p.g, .i p.b, .i p.a]
def pxD (p : Px) : D := .agg (pxC p)
def unPx : List D → Px
  | [.i x, .i y, .i w, .i h] => ⟨x, y, w, h⟩
  | _ => ⟨0, 0, 0, 0⟩
def iC (n : Int) : List D := [.i n]
def unI : List D → Int
  | [.i n] => n
  | _ => 0
theorem mapI (l : List Int) : (l.map iC).map unI = l := by
  induction l with
  | nil => rfl
  | cons a l ih => simp [ih, iC, unI]
theorem getDI (l : List Int) (k : Nat) : (l.map iC).getD k [.i 0] = [.i (l.getD k 0)] := by
  simp only [List.getD_eq_getElem?_getD, List.getElem?_map]
  cases l[k]? <;> rfl
theorem setI (l : List Int) (k : Nat) (n : Int) : (l.map iC).set k [.i n] = (l.set k n).map iC := by rw [List.map_set]; rfl
theorem plI : ∀ (l : List Int), D.plainLL (l.map iC) = true
  | [] => rfl
  | a :: l => by simp only [List.map_cons, D.plainLL, plI l, iC, D.plainL, D.plain, Bool.and_self]
theorem repI (n : Nat) : List.replicate n [D.i 0] = (List.replicate n (0 : Int)).map iC := by simp [iC]
theorem tkI (l : List Int) : (l.map iC).take l.length = l.map iC := List.take_of_length_le (by simp)
def plyD (p : List Pt) : D := .sl 2 (p.map ptC)
def plyC (p : List Pt) : List D := [plyD p]
def unPly : List D → List Pt
  | [.sl _ l] => l.map unPt
  | _ => []
theorem toN0 : Int.toNat 0 = 0 := rfl
def floorI (a b : Int) : Int := if b = 0 then 0 else if a = -9223372036854775808 ∧ b = -1 then 9223372036854775807 else a.fdiv b
def divI (a b : Int) : Int := (2 * a + b) / (2 * b)
def unitI (x : Int) : Int := min 65535 (max x 0)
def mulI (a b : Int) : Int := divI (unitI a * unitI b) 65535
def clampI (x lo hi : Int) : Int := min hi (max x lo)
def absU (a : Int) : Int := if a < 0 then -a else a
def limP (p : Px) : Px := ⟨unitI p.r, unitI p.g, unitI p.b, unitI p.a⟩
def validP (p : Px) : Bool := decide (limP p = p)
def fadeP (p : Px) (a : Int) : Px := if mulI (unitI p.a) a = 0 then zP else ⟨unitI p.r, unitI p.g, unitI p.b, mulI (unitI p.a) a⟩
def ptOk (p : Pt) : Bool := decide (-16777216 ≤ p.x) && decide (p.x ≤ 16777216) && decide (-16777216 ≤ p.y) && decide (p.y ≤ 16777216)
def total (ps : List (List Pt)) : Nat := (ps.map List.length).sum
def checkE (ps : List (List Pt)) (rule : Int) : Int :=
  if rule ≠ 0 ∧ rule ≠ 1 then 8 else if 4096 < total ps then 3 else if ps.all (fun p => p.all ptOk) then 0 else 2
def nxt (p : List Pt) (k : Nat) : Pt := p.getD ((k + 1) % p.length) ⟨0, 0⟩
def crossP (a b : Pt) : Int := a.x * b.y - b.x * a.y
def twiceK (p : List Pt) (k : Nat) : Int := ((List.range k).map fun i => crossP (p.getD i ⟨0, 0⟩) (nxt p i)).sum
def twiceI (p : List Pt) : Int := if checkE [p] 0 = 0 then twiceK p p.length else 0
end Go.Rect

set_option linter.unusedSimpArgs false
set_option linter.unusedVariables false
namespace Go.Rect
open Go.Eng
theorem tmod_np {a : Int} (b : Int) (h : a ≤ 0) : a.tmod b ≤ 0 := by
  have := Int.tmod_nonneg b (a := -a) (by omega)
  rw [Int.neg_tmod] at this; omega
theorem tdiv_np {a b : Int} (h : a ≤ 0) (hb : 0 ≤ b) : a.tdiv b ≤ 0 := by
  have := Int.tdiv_nonneg (a := -a) (b := b) (by omega) hb
  rw [Int.neg_tdiv] at this; omega
theorem tdiv_bd (a b : Int) (h1 : -9223372036854775808 ≤ a) (h2 : a ≤ 9223372036854775807) : -9223372036854775808 ≤ a.tdiv b ∧ a.tdiv b ≤ 9223372036854775808 := by
  have := Int.natAbs_tdiv_le_natAbs a b; omega
theorem fl1 {a b : Int} (hc : b = 0) : 0 = floorI a b := by simp [floorI, hc]
theorem fl2 {a b : Int} (hb : ¬ b = 0) (hc : a = -9223372036854775808 ∧ b = -1) : 9223372036854775807 = floorI a b := by rw [floorI, if_neg hb, if_pos hc]
theorem tmod0 {a b : Int} : b ∣ a ↔ a.tmod b = 0 := Int.dvd_iff_tmod_eq_zero
theorem floor_ne {a b : Int} (hb : ¬ b = 0) (hm : (a == -9223372036854775808 && b == -1) = false) : floorI a b = a.tdiv b - (if b ∣ a then 0 else if 0 ≤ a then (if 0 ≤ b then 0 else 1) else (if 0 ≤ b then 1 else 0)) := by
  have hm' : ¬ (a = -9223372036854775808 ∧ b = -1) := by intro h; simp [h.1, h.2] at hm
  rw [floorI, if_neg hb, if_neg hm', Int.fdiv_eq_tdiv]
  by_cases h : 0 ≤ b
  · have : b.sign = 1 := Int.sign_eq_one_iff_pos.2 (by omega)
    simp [h, this]
  · have : b.sign = -1 := Int.sign_eq_neg_one_iff_neg.2 (by omega)
    simp [h, this]
theorem tdiv_lt {a b : Int} (h1 : -9223372036854775808 ≤ a) (h2 : a ≤ 9223372036854775807) (hb : ¬ b = 0) (hm : (a == -9223372036854775808 && b == -1) = false) : a.tdiv b ≤ 9223372036854775807 := by
  have hm' : ¬ (a = -9223372036854775808 ∧ b = -1) := by intro h; simp [h.1, h.2] at hm
  have h := Int.natAbs_tdiv_le_natAbs a b
  by_cases ha : a = -9223372036854775808
  · have hb1 : ¬ b = -1 := fun h => hm' ⟨ha, h⟩
    by_cases hb2 : 0 ≤ b
    · have : a.tdiv b ≤ 0 := tdiv_np (by omega) hb2
      omega
    · have h3 : b ≤ -2 := by omega
      have h4 := Int.mul_tdiv_add_tmod a b
      have h5 : a.tmod b ≤ 0 := tmod_np b (by omega)
      generalize a.tdiv b = q at *
      have h7 : 9223372036854775808 ≤ q ∨ q ≤ 9223372036854775807 := by omega
      rcases h7 with h7 | h7
      · exfalso
        have : b * q ≤ -2 * q := Int.mul_le_mul_of_nonneg_right h3 (by omega)
        have h8 : -b < a.tmod b ∨ a.tmod b ≤ -b := by omega
        have h9 : -a.tmod b < -b := by
          have := Int.tmod_lt_of_pos (-a) (b := -b) (by omega)
          rw [Int.tmod_neg, Int.neg_tmod] at this; omega
        have h10 : b * q + (b + 1) ≤ a := by omega
        have h11 : b * (q + 1) = b * q + b := by rw [Int.mul_add]; omega
        have : b * (q + 1) ≤ -2 * (q + 1) := Int.mul_le_mul_of_nonneg_right h3 (by omega)
        omega
      · exact h7
  · omega
theorem fl3 {a b : Int} (h1 : -9223372036854775808 ≤ a) (h2 : a ≤ 9223372036854775807) (hb : ¬ b = 0) (hm : (a == -9223372036854775808 && b == -1) = false) (hc : ¬ a.tmod b = 0 ∧ ¬ decide (a < 0) = decide (b < 0)) :
    IntKind.i64.wrap (IntKind.i64.wrap (a.tdiv b) - 1) = floorI a b := by
  have h3 := tdiv_bd a b h1 h2; have h4 := tdiv_lt h1 h2 hb hm
  have hn : ¬ b ∣ a := fun h => hc.1 (tmod0.1 h)
  rw [floor_ne hb hm, if_neg hn, w64 (n := a.tdiv b) (by omega) (by omega)]
  have hd := hc.2
  by_cases ha : 0 ≤ a
  · have hb' : ¬ 0 ≤ b := by
      intro h; apply hd; rw [decide_eq_false (by omega : ¬ a < 0), decide_eq_false (by omega : ¬ b < 0)]
    rw [if_pos ha, if_neg hb']
    have : a.tdiv b ≠ -9223372036854775808 := by
      intro h
      have h5 := Int.natAbs_tdiv_le_natAbs a b
      omega
    rw [w64 (by omega) (by omega)]
  · have hb' : 0 ≤ b := by
      by_cases h : 0 ≤ b
      · exact h
      · exfalso; apply hd
        rw [decide_eq_true (by omega : a < 0), decide_eq_true (by omega : b < 0)]
    rw [if_neg ha, if_pos hb']
    have : a.tdiv b ≠ -9223372036854775808 := by
      intro h
      have h5 := Int.natAbs_tdiv_le_natAbs a b
      have ha' : a = -9223372036854775808 := by omega
      have h6 := Int.mul_tdiv_add_tmod a b
      have h7 : a.tmod b ≤ 0 := tmod_np b (by omega)
      rw [h, ha'] at h6
      have h8 : ¬ b = 1 := by rintro rfl; exact hn (Int.one_dvd a)
      rw [ha'] at h7
      omega
    rw [w64 (by omega) (by omega)]
theorem fl4 {a b : Int} (h1 : -9223372036854775808 ≤ a) (h2 : a ≤ 9223372036854775807) (hb : ¬ b = 0) (hm : (a == -9223372036854775808 && b == -1) = false) (hc : (a.tmod b != 0 && !decide (a < 0) == decide (b < 0)) = false) :
    IntKind.i64.wrap (a.tdiv b) = floorI a b := by
  have h3 := tdiv_bd a b h1 h2; have h4 := tdiv_lt h1 h2 hb hm
  rw [floor_ne hb hm, w64 (by omega) (by omega)]
  by_cases hd : b ∣ a
  · simp [hd]
  · have hn : a.tmod b ≠ 0 := fun h => hd (tmod0.2 h)
    simp only [Bool.and_eq_false_iff, bne_eq_false_iff_eq, hn, false_or] at hc
    rw [if_neg hd]
    by_cases ha : 0 ≤ a
    · by_cases hb' : 0 ≤ b
      · simp [ha, hb']
      · exfalso; rw [decide_eq_false (by omega : ¬ a < 0), decide_eq_true (by omega : b < 0)] at hc; simp at hc
    · by_cases hb' : 0 ≤ b
      · exfalso; rw [decide_eq_true (by omega : a < 0), decide_eq_false (by omega : ¬ b < 0)] at hc; simp at hc
      · simp [ha, hb']
theorem tmod_neg_iff {a b : Int} (h : ¬ a.tmod b = 0) : decide (a.tmod b < 0) = decide (a < 0) := by
  by_cases ha : 0 ≤ a
  · have := Int.tmod_nonneg b ha
    rw [decide_eq_false (by omega), decide_eq_false (by omega)]
  · have := tmod_np b (a := a) (by omega)
    rw [decide_eq_true (by omega), decide_eq_true (by omega)]
theorem fl5 {a b : Int} (h1 : -9223372036854775808 ≤ a) (h2 : a ≤ 9223372036854775807) (hb : ¬ b = 0) (hm : (a == -9223372036854775808 && b == -1) = false) (hc : ¬ a.tmod b = 0 ∧ ¬ decide (a.tmod b < 0) = decide (b < 0)) :
    IntKind.i64.wrap (IntKind.i64.wrap (a.tdiv b) - 1) = floorI a b := fl3 h1 h2 hb hm ⟨hc.1, by rw [← tmod_neg_iff hc.1]; exact hc.2⟩
theorem fl6 {a b : Int} (h1 : -9223372036854775808 ≤ a) (h2 : a ≤ 9223372036854775807) (hb : ¬ b = 0) (hm : (a == -9223372036854775808 && b == -1) = false) (hc : (a.tmod b != 0 && !decide (a.tmod b < 0) == decide (b < 0)) = false) :
    IntKind.i64.wrap (a.tdiv b) = floorI a b := by
  by_cases h : a.tmod b = 0
  · exact fl4 h1 h2 hb hm (by simp [h])
  · rw [tmod_neg_iff h] at hc; exact fl4 h1 h2 hb hm hc
theorem floor_pos {a b : Int} (h : 0 < b) : floorI a b = a / b := by
  rw [floorI, if_neg (by omega), if_neg (by omega), Int.fdiv_eq_ediv_of_nonneg a (by omega)]
theorem u64 {n : Int} (h1 : 0 ≤ n) (h2 : n ≤ 18446744073709551615) : IntKind.u64.wrap n = n := by
  rw [IntKind.wrap_u64]; omega
theorem Px.ext' {p q : Px} (h : p.r = q.r ∧ p.g = q.g ∧ p.b = q.b ∧ p.a = q.a) : p = q := by
  cases p; cases q; simpa using h
end Go.Rect

namespace Go.Rect
open Go.Eng
end Go.Rect

set_option linter.unusedSimpArgs false
set_option linter.unusedVariables false
namespace Go.Rect
open Go.Eng
structure B4 where
  x0 : Int
  y0 : Int
  x1 : Int
  y1 : Int
def b0 : B4 := ⟨1048577, 1048577, -1048577, -1048577⟩
def bstep (b : B4) (p : Pt) : B4 := ⟨min b.x0 (p.x / 16), min b.y0 (p.y / 16), max b.x1 (p.x / 16), max b.y1 (p.y / 16)⟩
def bAll (l : List Pt) : B4 := l.foldl bstep b0
def seenP (ps : List (List Pt)) (j i : Nat) : List Pt := (ps.take j).flatten ++ (ps.getD j []).take i
def bK (ps : List (List Pt)) (j i : Nat) : B4 := bAll (seenP ps j i)
def boxB (b : B4) : Rc := if min b.x1 1048575 < b.x0 ∨ min b.y1 1048575 < b.y0 then zR else ⟨b.x0, b.y0, min b.x1 1048575 - b.x0 + 1, min b.y1 1048575 - b.y0 + 1⟩
def boxR (ps : List (List Pt)) : Rc := if checkE ps 0 = 0 then boxB (bAll ps.flatten) else zR
def rb (l : List Pt) : B4 := if l = [] then ⟨0, 0, 0, 0⟩ else bAll l
def rcut (l : List Pt) (p : Pt) : B4 := if l = [] then ⟨p.x / 16, p.y / 16, p.x / 16, p.y / 16⟩ else bAll l
end Go.Rect

set_option linter.unusedSimpArgs false
set_option linter.unusedVariables false
namespace Go.Rect
open Go.Eng
structure Ed where
  a : Pt
  b : Pt
  deriving DecidableEq, Inhabited
def zE : Ed := ⟨⟨0, 0⟩, ⟨0, 0⟩⟩
def edC (s : Ed) : List D := [.i s.a.x, .i s.a.y, .i s.b.x, .i s.b.y]
def edD (s : Ed) : D := .agg (edC s)
def unEd : List D → Ed
  | [.i x, .i y, .i z, .i w] => ⟨⟨x, y⟩, ⟨z, w⟩⟩
  | _ => zE
def edgesOf (p : List Pt) : List Ed := (List.range p.length).map fun i => ⟨p.getD i ⟨0, 0⟩, nxt p i⟩
def allE (ps : List (List Pt)) : List Ed := ps.flatMap edgesOf
def keepE (y0 y1 : Int) (s : Ed) : Bool := !(s.a.y == s.b.y) && decide (min s.a.y s.b.y < y1) && decide (y0 < max s.a.y s.b.y)
def edgesL (ps : List (List Pt)) (y0 y1 : Int) : List Ed := (allE ps).filter (keepE y0 y1)
def crossI (s : Ed) (x y : Int) : Int :=
  if s.b.y < s.a.y then (if y < s.b.y ∨ s.a.y ≤ y then 0 else if (2 * x + 1) * (s.a.y - s.b.y) < 2 * s.b.x * (s.a.y - s.b.y) + (2 * y + 1 - 2 * s.b.y) * (s.a.x - s.b.x) then -1 else 0)
  else (if y < s.a.y ∨ s.b.y ≤ y then 0 else if (2 * x + 1) * (s.b.y - s.a.y) < 2 * s.a.x * (s.b.y - s.a.y) + (2 * y + 1 - 2 * s.a.y) * (s.b.x - s.a.x) then 1 else 0)
def befN (s : Ed) (y : Int) : Int := 2 * (s.b.y - s.a.y) * s.a.x + (2 * y + 1 - 2 * s.a.y) * (s.b.x - s.a.x) - (s.b.y - s.a.y)
def befI (s : Ed) (y : Int) : Int := -floorI (-befN s y) (2 * (s.b.y - s.a.y))
def onRow (s : Ed) (y : Int) : Bool := !(decide (y < min s.a.y s.b.y) || decide (max s.a.y s.b.y ≤ y))
def sgn (s : Ed) : Int := if s.b.y < s.a.y then -1 else 1
def insN (ps : List (List Pt)) (x y : Int) : Int := ((allE ps).map fun s => crossI s x y).sum
def insB (rule n : Int) : Bool := if rule = 1 then !(n.tmod 2 == 0) else !(n == 0)
def b2i (b : Bool) : Int := if b then 1 else 0
def rowC (ps : List (List Pt)) (rule x y : Int) (n : Nat) : Int := ((List.range n).map fun (i : Nat) => b2i (insB rule (insN ps (x + i) y))).sum
def cntC (ps : List (List Pt)) (rule x y : Int) (n : Nat) : Int := ((List.range n).map fun (j : Nat) => rowC ps rule (16 * x) (16 * y + j) 16).sum
def valI (ps : List (List Pt)) (rule x y : Int) : Int := divI (65535 * cntC ps rule x y 16) 256
def posI (s : Ed) (y x0 : Int) (n : Nat) : Nat := (min (max (befI s y - x0) 0) ((n : Int) - 1)).toNat
def wstep (y x0 : Int) (ts : List Int) (s : Ed) : List Int :=
  if onRow s y then
    ((ts.set 0 (ts.getD 0 0 + sgn s)).set (posI s y x0 ts.length) ((ts.set 0 (ts.getD 0 0 + sgn s)).getD (posI s y x0 ts.length) 0 - sgn s))
  else ts
def windK (l : List Ed) (y x0 : Int) (n k : Nat) : List Int := (l.take k).foldl (wstep y x0) (List.replicate n 0)
def windL (l : List Ed) (y x0 : Int) (n : Nat) : List Int := l.foldl (wstep y x0) (List.replicate n 0)
def windB (l : List Ed) (y : Int) : Bool := l.any fun s => onRow s y
def psum (ts : List Int) (c : Nat) : Int := (ts.take c).sum
end Go.Rect

set_option linter.unusedSimpArgs false
set_option linter.unusedVariables false
namespace Go.Rect
open Go.Eng
def PtOk (p : Pt) : Prop := -16777216 ≤ p.x ∧ p.x ≤ 16777216 ∧ -16777216 ≤ p.y ∧ p.y ≤ 16777216
def XOk (x : Int) : Prop := -16777216 ≤ x ∧ x ≤ 16777216
def crS (l : List Ed) (x y : Int) : Int := (l.map fun s => crossI s x y).sum
def insK (ps : List (List Pt)) (j i : Nat) (x y : Int) : Int := crS (allE (ps.take j)) x y + crS ((edgesOf (ps.getD j [])).take i) x y
def inC (ps : List (List Pt)) (rule x y : Int) (j i : Nat) : Int := cntC ps rule x y j + rowC ps rule (16 * x) (16 * y + j) i
def areaE (r : Rc) : Int := if validB r then (if 256 < r.w ∨ 256 < r.h then 15 else 0) else 2
structure Mk where
  w : Int
  h : Int
  v : List Int
  deriving DecidableEq, Inhabited
def mkC (m : Mk) : List D := [.i m.w, .i m.h, .sl 1 (m.v.map iC)]
def mkD (m : Mk) : D := .agg (mkC m)
def unMk : List D → Mk
  | [.i w, .i h, .sl _ l] => ⟨w, h, l.map unI⟩
  | _ => ⟨0, 0, []⟩
def sameM (a b : Mk) : Bool := decide (a = b)
end Go.Rect

set_option linter.unusedSimpArgs false
set_option linter.unusedVariables false
namespace Go.Rect
open Go.Eng
def mskV (ps : List (List Pt)) (rule : Int) (r : Rc) (k : Nat) : Int := valI ps rule (r.x + ((k % r.w.toNat : Nat) : Int)) (r.y + ((k / r.w.toNat : Nat) : Int))
def VL (ps : List (List Pt)) (rule : Int) (r : Rc) (n : Nat) : List Int := (List.range n).map (mskV ps rule r)
def maskE (ps : List (List Pt)) (rule : Int) (r : Rc) : Int := if checkE ps rule ≠ 0 then checkE ps rule else areaE r
def maskR (ps : List (List Pt)) (rule : Int) (r : Rc) : Mk := if maskE ps rule r = 0 ∧ emptyB r = false then ⟨r.w, r.h, VL ps rule r (r.w.toNat * r.h.toNat)⟩ else ⟨0, 0, []⟩
end Go.Rect

