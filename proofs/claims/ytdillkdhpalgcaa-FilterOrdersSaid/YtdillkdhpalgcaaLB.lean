import Derived.Test.YtdillkdhpalgcaaLA
set_option linter.unusedSimpArgs false
set_option linter.unusedVariables false
namespace Go.Rect
open Go.Eng
/-! ### Models of layers 1, 6 and 20 -/
structure Px where
  r : Int
  g : Int
  b : Int
  a : Int
  deriving DecidableEq, Inhabited
def zP : Px := ⟨0, 0, 0, 0⟩
def pxC (p : Px) : List D := [.i p.r, .i p.g, .i p.b, .i p.a]
def pxD (p : Px) : D := .agg (pxC p)
def unPx : List D → Px
  | [.i x, .i y, .i w, .i h] => ⟨x, y, w, h⟩
  | _ => ⟨0, 0, 0, 0⟩
theorem unPxE (p : Px) : unPx [.i p.r, .i p.g, .i p.b, .i p.a] = p := rfl
theorem unPx_pxC (p : Px) : unPx (pxC p) = p := rfl
theorem mapPx (l : List Px) : (l.map pxC).map unPx = l := by
  induction l with
  | nil => rfl
  | cons a l ih => simp [ih, unPx_pxC]
theorem getDPx (l : List Px) (k : Nat) : (l.map pxC).getD k [.i 0, .i 0, .i 0, .i 0] = pxC (l.getD k zP) := by
  simp only [List.getD_eq_getElem?_getD, List.getElem?_map]
  cases l[k]? <;> rfl
/-- Numbers in slices. -/
def iC (n : Int) : List D := [.i n]
def unI : List D → Int
  | [.i n] => n
  | _ => 0
theorem mapI (l : List Int) : (l.map iC).map unI = l := by
  induction l with
  | nil => rfl
  | cons a l ih => simp [ih, iC, unI]
theorem getDI (l : List Int) (k : Nat) : (l.map iC).getD k [.i 0] = [.i (l.getD k 0)] := by
  simp only [List.getD_eq_getElem?_getD, List.getElem?_map]
  cases l[k]? <;> rfl
theorem setI (l : List Int) (k : Nat) (n : Int) : (l.map iC).set k [.i n] = (l.set k n).map iC := by rw [List.map_set]; rfl
theorem setPx (l : List Px) (k : Nat) (p : Px) : (l.map pxC).set k [.i p.r, .i p.g, .i p.b, .i p.a] = (l.set k p).map pxC := by rw [List.map_set]; rfl
theorem plI : ∀ (l : List Int), D.plainLL (l.map iC) = true
  | [] => rfl
  | a :: l => by simp only [List.map_cons, D.plainLL, plI l, iC, D.plainL, D.plain, Bool.and_self]
theorem plPx : ∀ (l : List Px), D.plainLL (l.map pxC) = true
  | [] => rfl
  | a :: l => by simp only [List.map_cons, D.plainLL, plPx l, pxC, D.plainL, D.plain, Bool.and_self]
theorem repI (n : Nat) : List.replicate n [D.i 0] = (List.replicate n (0 : Int)).map iC := by simp [iC]
theorem repPx (n : Nat) : List.replicate n [D.i 0, .i 0, .i 0, .i 0] = (List.replicate n zP).map pxC := by simp [pxC, zP]
theorem appI (l : List Int) (n : Int) : l.map iC ++ [[.i n]] = (l ++ [n]).map iC := by simp [iC]
theorem appPx (l : List Px) (p : Px) : l.map pxC ++ [[.i p.r, .i p.g, .i p.b, .i p.a]] = (l ++ [p]).map pxC := by simp [pxC]
theorem tkI (l : List Int) : (l.map iC).take l.length = l.map iC := List.take_of_length_le (by simp)
theorem tkPx (l : List Px) : (l.map pxC).take l.length = l.map pxC := List.take_of_length_le (by simp)
/-- Polygons. -/
def plyD (p : List Pt) : D := .sl 2 (p.map ptC)
def plyC (p : List Pt) : List D := [plyD p]
def unPly : List D → List Pt
  | [.sl _ l] => l.map unPt
  | _ => []
theorem unPly_plyC (p : List Pt) : unPly (plyC p) = p := by simp only [plyC, plyD, unPly, mapPt]
theorem mapPly (l : List (List Pt)) : (l.map plyC).map unPly = l := by
  induction l with
  | nil => rfl
  | cons a l ih => simp [ih, unPly_plyC]
theorem getDPly (l : List (List Pt)) (k : Nat) : (l.map plyC).getD k [.sl 2 []] = [.sl 2 ((l.getD k []).map ptC)] := by
  simp only [List.getD_eq_getElem?_getD, List.getElem?_map]
  cases l[k]? <;> rfl
theorem unPlyE (p : List Pt) : unPly [.sl 2 (p.map ptC)] = p := by simp only [unPly, mapPt]
theorem onePly (p : List Pt) : [[D.sl 2 (p.map ptC)]] = [p].map plyC := rfl

theorem toN0 : Int.toNat 0 = 0 := rfl
/-! ### Layer 1 -/
def floorI (a b : Int) : Int := if b = 0 then 0 else if a = -9223372036854775808 ∧ b = -1 then 9223372036854775807 else a.fdiv b
def divI (a b : Int) : Int := (2 * a + b) / (2 * b)
def unitI (x : Int) : Int := min 65535 (max x 0)
def mulI (a b : Int) : Int := divI (unitI a * unitI b) 65535
def clampI (x lo hi : Int) : Int := min hi (max x lo)
def absU (a : Int) : Int := if a < 0 then -a else a
/-! ### Layer 6 -/
def limP (p : Px) : Px := ⟨unitI p.r, unitI p.g, unitI p.b, unitI p.a⟩
def validP (p : Px) : Bool := decide (limP p = p)
def fadeP (p : Px) (a : Int) : Px := if mulI (unitI p.a) a = 0 then zP else ⟨unitI p.r, unitI p.g, unitI p.b, mulI (unitI p.a) a⟩
/-! ### Layer 20 -/
def ptOk (p : Pt) : Bool := decide (-16777216 ≤ p.x) && decide (p.x ≤ 16777216) && decide (-16777216 ≤ p.y) && decide (p.y ≤ 16777216)
def total (ps : List (List Pt)) : Nat := (ps.map List.length).sum
def checkE (ps : List (List Pt)) (rule : Int) : Int :=
  if rule ≠ 0 ∧ rule ≠ 1 then 8 else if 4096 < total ps then 3 else if ps.all (fun p => p.all ptOk) then 0 else 2
def nxt (p : List Pt) (k : Nat) : Pt := p.getD ((k + 1) % p.length) ⟨0, 0⟩
def crossP (a b : Pt) : Int := a.x * b.y - b.x * a.y
def twiceK (p : List Pt) (k : Nat) : Int := ((List.range k).map fun i => crossP (p.getD i ⟨0, 0⟩) (nxt p i)).sum
def twiceI (p : List Pt) : Int := if checkE [p] 0 = 0 then twiceK p p.length else 0
end Go.Rect

set_option linter.unusedSimpArgs false
set_option linter.unusedVariables false
namespace Go.Rect
open Go.Eng
/-! ### Layer 1 -/
theorem tmod_np {a : Int} (b : Int) (h : a ≤ 0) : a.tmod b ≤ 0 := by
  have := Int.tmod_nonneg b (a := -a) (by omega)
  rw [Int.neg_tmod] at this; omega
theorem tdiv_np {a b : Int} (h : a ≤ 0) (hb : 0 ≤ b) : a.tdiv b ≤ 0 := by
  have := Int.tdiv_nonneg (a := -a) (b := b) (by omega) hb
  rw [Int.neg_tdiv] at this; omega
theorem tdiv_bd (a b : Int) (h1 : -9223372036854775808 ≤ a) (h2 : a ≤ 9223372036854775807) : -9223372036854775808 ≤ a.tdiv b ∧ a.tdiv b ≤ 9223372036854775808 := by
  have := Int.natAbs_tdiv_le_natAbs a b; omega
theorem fl1 {a b : Int} (hc : b = 0) : 0 = floorI a b := by simp [floorI, hc]
theorem fl2 {a b : Int} (hb : ¬ b = 0) (hc : a = -9223372036854775808 ∧ b = -1) : 9223372036854775807 = floorI a b := by rw [floorI, if_neg hb, if_pos hc]
theorem tmod0 {a b : Int} : b ∣ a ↔ a.tmod b = 0 := Int.dvd_iff_tmod_eq_zero
theorem floor_ne {a b : Int} (hb : ¬ b = 0) (hm : (a == -9223372036854775808 && b == -1) = false) : floorI a b = a.tdiv b - (if b ∣ a then 0 else if 0 ≤ a then (if 0 ≤ b then 0 else 1) else (if 0 ≤ b then 1 else 0)) := by
  have hm' : ¬ (a = -9223372036854775808 ∧ b = -1) := by intro h; simp [h.1, h.2] at hm
  rw [floorI, if_neg hb, if_neg hm', Int.fdiv_eq_tdiv]
  by_cases h : 0 ≤ b
  · have : b.sign = 1 := Int.sign_eq_one_iff_pos.2 (by omega)
    simp [h, this]
  · have : b.sign = -1 := Int.sign_eq_neg_one_iff_neg.2 (by omega)
    simp [h, this]
theorem tdiv_lt {a b : Int} (h1 : -9223372036854775808 ≤ a) (h2 : a ≤ 9223372036854775807) (hb : ¬ b = 0) (hm : (a == -9223372036854775808 && b == -1) = false) : a.tdiv b ≤ 9223372036854775807 := by
  have hm' : ¬ (a = -9223372036854775808 ∧ b = -1) := by intro h; simp [h.1, h.2] at hm
  have h := Int.natAbs_tdiv_le_natAbs a b
  by_cases ha : a = -9223372036854775808
  · have hb1 : ¬ b = -1 := fun h => hm' ⟨ha, h⟩
    by_cases hb2 : 0 ≤ b
    · have : a.tdiv b ≤ 0 := tdiv_np (by omega) hb2
      omega
    · have h3 : b ≤ -2 := by omega
      have h4 := Int.mul_tdiv_add_tmod a b
      have h5 : a.tmod b ≤ 0 := tmod_np b (by omega)
      generalize a.tdiv b = q at *
      have h7 : 9223372036854775808 ≤ q ∨ q ≤ 9223372036854775807 := by omega
      rcases h7 with h7 | h7
      · exfalso
        have : b * q ≤ -2 * q := Int.mul_le_mul_of_nonneg_right h3 (by omega)
        have h8 : -b < a.tmod b ∨ a.tmod b ≤ -b := by omega
        have h9 : -a.tmod b < -b := by
          have := Int.tmod_lt_of_pos (-a) (b := -b) (by omega)
          rw [Int.tmod_neg, Int.neg_tmod] at this; omega
        have h10 : b * q + (b + 1) ≤ a := by omega
        have h11 : b * (q + 1) = b * q + b := by rw [Int.mul_add]; omega
        have : b * (q + 1) ≤ -2 * (q + 1) := Int.mul_le_mul_of_nonneg_right h3 (by omega)
        omega
      · exact h7
  · omega
theorem fl3 {a b : Int} (h1 : -9223372036854775808 ≤ a) (h2 : a ≤ 9223372036854775807) (hb : ¬ b = 0) (hm : (a == -9223372036854775808 && b == -1) = false) (hc : ¬ a.tmod b = 0 ∧ ¬ decide (a < 0) = decide (b < 0)) :
    IntKind.i64.wrap (IntKind.i64.wrap (a.tdiv b) - 1) = floorI a b := by
  have h3 := tdiv_bd a b h1 h2; have h4 := tdiv_lt h1 h2 hb hm
  have hn : ¬ b ∣ a := fun h => hc.1 (tmod0.1 h)
  rw [floor_ne hb hm, if_neg hn, w64 (n := a.tdiv b) (by omega) (by omega)]
  have hd := hc.2
  by_cases ha : 0 ≤ a
  · have hb' : ¬ 0 ≤ b := by
      intro h; apply hd; rw [decide_eq_false (by omega : ¬ a < 0), decide_eq_false (by omega : ¬ b < 0)]
    rw [if_pos ha, if_neg hb']
    have : a.tdiv b ≠ -9223372036854775808 := by
      intro h
      have h5 := Int.natAbs_tdiv_le_natAbs a b
      omega
    rw [w64 (by omega) (by omega)]
  · have hb' : 0 ≤ b := by
      by_cases h : 0 ≤ b
      · exact h
      · exfalso; apply hd
        rw [decide_eq_true (by omega : a < 0), decide_eq_true (by omega : b < 0)]
    rw [if_neg ha, if_pos hb']
    have : a.tdiv b ≠ -9223372036854775808 := by
      intro h
      have h5 := Int.natAbs_tdiv_le_natAbs a b
      have ha' : a = -9223372036854775808 := by omega
      have h6 := Int.mul_tdiv_add_tmod a b
      have h7 : a.tmod b ≤ 0 := tmod_np b (by omega)
      rw [h, ha'] at h6
      have h8 : ¬ b = 1 := by rintro rfl; exact hn (Int.one_dvd a)
      rw [ha'] at h7
      omega
    rw [w64 (by omega) (by omega)]
theorem fl4 {a b : Int} (h1 : -9223372036854775808 ≤ a) (h2 : a ≤ 9223372036854775807) (hb : ¬ b = 0) (hm : (a == -9223372036854775808 && b == -1) = false) (hc : (a.tmod b != 0 && !decide (a < 0) == decide (b < 0)) = false) :
    IntKind.i64.wrap (a.tdiv b) = floorI a b := by
  have h3 := tdiv_bd a b h1 h2; have h4 := tdiv_lt h1 h2 hb hm
  rw [floor_ne hb hm, w64 (by omega) (by omega)]
  by_cases hd : b ∣ a
  · simp [hd]
  · have hn : a.tmod b ≠ 0 := fun h => hd (tmod0.2 h)
    simp only [Bool.and_eq_false_iff, bne_eq_false_iff_eq, hn, false_or] at hc
    rw [if_neg hd]
    by_cases ha : 0 ≤ a
    · by_cases hb' : 0 ≤ b
      · simp [ha, hb']
      · exfalso; rw [decide_eq_false (by omega : ¬ a < 0), decide_eq_true (by omega : b < 0)] at hc; simp at hc
    · by_cases hb' : 0 ≤ b
      · exfalso; rw [decide_eq_true (by omega : a < 0), decide_eq_false (by omega : ¬ b < 0)] at hc; simp at hc
      · simp [ha, hb']
theorem tmod_neg_iff {a b : Int} (h : ¬ a.tmod b = 0) : decide (a.tmod b < 0) = decide (a < 0) := by
  by_cases ha : 0 ≤ a
  · have := Int.tmod_nonneg b ha
    rw [decide_eq_false (by omega), decide_eq_false (by omega)]
  · have := tmod_np b (a := a) (by omega)
    rw [decide_eq_true (by omega), decide_eq_true (by omega)]
theorem fl5 {a b : Int} (h1 : -9223372036854775808 ≤ a) (h2 : a ≤ 9223372036854775807) (hb : ¬ b = 0) (hm : (a == -9223372036854775808 && b == -1) = false) (hc : ¬ a.tmod b = 0 ∧ ¬ decide (a.tmod b < 0) = decide (b < 0)) :
    IntKind.i64.wrap (IntKind.i64.wrap (a.tdiv b) - 1) = floorI a b := fl3 h1 h2 hb hm ⟨hc.1, by rw [← tmod_neg_iff hc.1]; exact hc.2⟩
theorem fl6 {a b : Int} (h1 : -9223372036854775808 ≤ a) (h2 : a ≤ 9223372036854775807) (hb : ¬ b = 0) (hm : (a == -9223372036854775808 && b == -1) = false) (hc : (a.tmod b != 0 && !decide (a.tmod b < 0) == decide (b < 0)) = false) :
    IntKind.i64.wrap (a.tdiv b) = floorI a b := by
  by_cases h : a.tmod b = 0
  · exact fl4 h1 h2 hb hm (by simp [h])
  · rw [tmod_neg_iff h] at hc; exact fl4 h1 h2 hb hm hc
theorem floor_pos {a b : Int} (h : 0 < b) : floorI a b = a / b := by
  rw [floorI, if_neg (by omega), if_neg (by omega), Int.fdiv_eq_ediv_of_nonneg a (by omega)]
theorem div_cases {a b : Int} (h : 0 < b) : (b - (a - b * (a / b)) ≤ a - b * (a / b) ∧ divI a b = a / b + 1) ∨ (a - b * (a / b) < b - (a - b * (a / b)) ∧ divI a b = a / b) := by
  have h1 := Int.mul_ediv_add_emod a b; have h2 := Int.emod_nonneg a (show b ≠ 0 by omega); have h3 := Int.emod_lt_of_pos a h
  unfold divI
  generalize hq : a / b = q at *
  generalize hr : a % b = r at *
  have e : a - b * q = r := by omega
  rw [e]
  by_cases hc : b - r ≤ r
  · left; refine ⟨hc, ?_⟩
    rw [Int.ediv_eq_iff_of_pos (by omega)]
    have : (q + 1) * (2 * b) = 2 * (b * q) + 2 * b := by rw [Int.add_mul, Int.mul_comm q, Int.mul_assoc]; omega
    constructor <;> omega
  · right; refine ⟨by omega, ?_⟩
    rw [Int.ediv_eq_iff_of_pos (by omega)]
    have : q * (2 * b) = 2 * (b * q) := by rw [Int.mul_comm q, Int.mul_assoc]
    constructor <;> omega
theorem quo_bd {a b : Int} (h1 : -4611686018427387904 ≤ a) (h2 : a ≤ 4611686018427387904) (h : 0 < b) (h4 : b ≤ 4294967296) : -4611686018427387904 ≤ a / b ∧ a / b ≤ 4611686018427387904 ∧ 0 ≤ a - b * (a / b) ∧ a - b * (a / b) < b ∧ -4611690313394683200 ≤ b * (a / b) ∧ b * (a / b) ≤ 4611690313394683200 := by
  have e1 := Int.mul_ediv_add_emod a b; have e2 := Int.emod_nonneg a (show b ≠ 0 by omega); have e3 := Int.emod_lt_of_pos a h
  refine ⟨?_, ?_, by omega, by omega, by omega, by omega⟩
  · rw [Int.le_ediv_iff_mul_le h]
    have : -4611686018427387904 * b ≤ -4611686018427387904 * 1 := Int.mul_le_mul_of_nonpos_left (by omega) (by omega)
    omega
  · rcases Int.le_total 0 a with ha | ha
    · have := Int.ediv_le_self b ha; omega
    · have : a / b ≤ 0 := Int.ediv_nonpos_of_nonpos_of_neg ha (by omega)
      omega
theorem dv1 {a b : Int} (h1 : -4611686018427387904 ≤ a) (h2 : a ≤ 4611686018427387904) (h : 0 < b) (h4 : b ≤ 4294967296)
    (hc : 0 < b ∧ IntKind.i64.wrap (b - IntKind.i64.wrap (a - IntKind.i64.wrap (b * floorI a b))) ≤ IntKind.i64.wrap (a - IntKind.i64.wrap (b * floorI a b)) ∨ b < 0 ∧ IntKind.i64.wrap (a - IntKind.i64.wrap (b * floorI a b)) ≤ IntKind.i64.wrap (b - IntKind.i64.wrap (a - IntKind.i64.wrap (b * floorI a b)))) :
    IntKind.i64.wrap (floorI a b + 1) = divI a b := by
  rw [floor_pos h] at hc ⊢
  have q := quo_bd h1 h2 h h4
  rw [w64 (n := b * (a / b)) (by omega) (by omega), w64 (n := a - b * (a / b)) (by omega) (by omega), w64 (n := b - (a - b * (a / b))) (by omega) (by omega)] at hc
  rw [w64 (by omega) (by omega)]
  rcases div_cases (a := a) h with ⟨_, e⟩ | ⟨e, _⟩ <;> omega
theorem dv2 {a b : Int} (h1 : -4611686018427387904 ≤ a) (h2 : a ≤ 4611686018427387904) (h : 0 < b) (h4 : b ≤ 4294967296)
    (hc : (decide (0 < b) && decide (IntKind.i64.wrap (b - IntKind.i64.wrap (a - IntKind.i64.wrap (b * floorI a b))) ≤ IntKind.i64.wrap (a - IntKind.i64.wrap (b * floorI a b)))) = false ∧ (decide (b < 0) && decide (IntKind.i64.wrap (a - IntKind.i64.wrap (b * floorI a b)) ≤ IntKind.i64.wrap (b - IntKind.i64.wrap (a - IntKind.i64.wrap (b * floorI a b))))) = false) :
    floorI a b = divI a b := by
  rw [floor_pos h] at hc ⊢
  have q := quo_bd h1 h2 h h4
  rw [w64 (n := b * (a / b)) (by omega) (by omega), w64 (n := a - b * (a / b)) (by omega) (by omega), w64 (n := b - (a - b * (a / b))) (by omega) (by omega)] at hc
  simp only [h, decide_true, Bool.true_and, decide_eq_false_iff_not] at hc
  rcases div_cases (a := a) h with ⟨e, _⟩ | ⟨_, e⟩ <;> omega
theorem u64 {n : Int} (h1 : 0 ≤ n) (h2 : n ≤ 18446744073709551615) : IntKind.u64.wrap n = n := by
  rw [IntKind.wrap_u64]; omega
theorem ab1 {a : Int} (h1 : -9223372036854775808 < a) (hc : a < 0) : Value.int IntKind.u64 (IntKind.u64.wrap (0 - IntKind.u64.wrap a)) = Value.int IntKind.u64 (absU a) := by
  congr 1; rw [absU, if_pos hc]; simp only [IntKind.wrap_u64]; omega
theorem ab2 {a : Int} (h2 : a ≤ 9223372036854775807) (hc : 0 ≤ a) : Value.int IntKind.u64 (IntKind.u64.wrap a) = Value.int IntKind.u64 (absU a) := by
  congr 1; rw [absU, if_neg (by omega)]; exact u64 hc (by omega)
theorem absU_bd {a : Int} (h : 0 ≤ a) : absU a = a := by rw [absU, if_neg (by omega)]
theorem dv3 {a b : Int} (h : 0 < b) (h4 : b ≤ 4294967296) (q : -4611686018427387904 ≤ a / b ∧ a / b ≤ 4611686018427387904 ∧ 0 ≤ a - b * (a / b) ∧ a - b * (a / b) < b ∧ -4611690313394683200 ≤ b * (a / b) ∧ b * (a / b) ≤ 4611690313394683200)
    (hc : IntKind.u64.wrap (absU b - absU (a - b * (a / b))) ≤ absU (a - b * (a / b))) : IntKind.i64.wrap (a / b + 1) = divI a b := by
  rw [absU_bd (by omega), absU_bd (by omega), u64 (by omega) (by omega)] at hc
  rw [w64 (by omega) (by omega)]
  rcases div_cases (a := a) h with ⟨_, e⟩ | ⟨e, _⟩ <;> omega
theorem dv4 {a b : Int} (h : 0 < b) (h4 : b ≤ 4294967296) (q : -4611686018427387904 ≤ a / b ∧ a / b ≤ 4611686018427387904 ∧ 0 ≤ a - b * (a / b) ∧ a - b * (a / b) < b ∧ -4611690313394683200 ≤ b * (a / b) ∧ b * (a / b) ≤ 4611690313394683200)
    (hc : absU (a - b * (a / b)) < IntKind.u64.wrap (absU b - absU (a - b * (a / b)))) : a / b = divI a b := by
  rw [absU_bd (by omega), absU_bd (by omega), u64 (by omega) (by omega)] at hc
  rcases div_cases (a := a) h with ⟨e, _⟩ | ⟨_, e⟩ <;> omega
theorem unit_bd (a : Int) : 0 ≤ unitI a ∧ unitI a ≤ 65535 := by unfold unitI; omega
theorem uu_bd (a b : Int) : 0 ≤ unitI a * unitI b ∧ unitI a * unitI b ≤ 4294836225 := by
  have h1 := unit_bd a; have h2 := unit_bd b
  refine ⟨Int.mul_nonneg h1.1 h2.1, ?_⟩
  have : unitI a * unitI b ≤ 65535 * 65535 := Int.mul_le_mul h1.2 h2.2 h2.1 (by omega)
  omega
theorem wuu (a b : Int) : IntKind.i64.wrap (unitI a * unitI b) = unitI a * unitI b := by have := uu_bd a b; exact w64 (by omega) (by omega)
theorem unit_idem (a : Int) : unitI (unitI a) = unitI a := by unfold unitI; omega
theorem wlu (p : Px) (a : Int) : IntKind.i64.wrap ((limP p).a * unitI a) = unitI (unitI p.a) * unitI a := by rw [unit_idem]; exact wuu p.a a
theorem Px.ext' {p q : Px} (h : p.r = q.r ∧ p.g = q.g ∧ p.b = q.b ∧ p.a = q.a) : p = q := by
  cases p; cases q; simpa using h
theorem pe {p q : Px} (h : p = q) : p.r = q.r ∧ p.g = q.g ∧ p.b = q.b ∧ p.a = q.a := by subst h; exact ⟨rfl, rfl, rfl, rfl⟩
theorem vp1 (p : Px) : (p.r == (limP p).r && (p.g == (limP p).g && (p.b == (limP p).b && p.a == (limP p).a))) = validP p := by
  rw [Bool.eq_iff_iff]; simp only [validP, Bool.and_eq_true, beq_iff_eq, decide_eq_true_eq]
  constructor
  · intro h; exact Px.ext' (by omega)
  · intro h; have := pe h; omega
theorem vp2 (p : Px) : ((limP p).r == p.r && ((limP p).g == p.g && ((limP p).b == p.b && (limP p).a == p.a))) = validP p := by
  rw [Bool.eq_iff_iff]; simp only [validP, Bool.and_eq_true, beq_iff_eq, decide_eq_true_eq]
  constructor
  · intro h; exact Px.ext' (by omega)
  · intro h; have := pe h; omega
theorem fd1 {p : Px} {a : Int} (hc : mulI (unitI p.a) a = 0) : zP = fadeP p a := by rw [fadeP, if_pos hc]
theorem fd2 {p : Px} {a : Int} (hc : ¬ mulI (unitI p.a) a = 0) : (⟨unitI p.r, unitI p.g, unitI p.b, mulI (unitI p.a) a⟩ : Px) = fadeP p a := by rw [fadeP, if_neg hc]
end Go.Rect

namespace Go.Rect
open Go.Eng
/-! ### Check -/
theorem getD_take_succ {α : Type} {l : List α} {k : Nat} {z : α} (h : (k : Int) < (l.length : Int)) : l.take (k + 1) = l.take k ++ [l.getD k z] := take_succ' h
theorem tot_succ {ps : List (List Pt)} {k : Nat} (h : (k : Int) < (ps.length : Int)) : total (ps.take (k + 1)) = total (ps.take k) + (ps.getD k []).length := by
  rw [take_succ' (z := ([] : List Pt)) h]; simp [total]
theorem tot_le (ps : List (List Pt)) (k : Nat) : total (ps.take k) ≤ total ps := by
  have e : total ps = total (ps.take k) + total (ps.drop k) := by
    have : ps.map List.length = (ps.take k).map List.length ++ (ps.drop k).map List.length := by rw [← List.map_append, List.take_append_drop]
    simp only [total, this, List.sum_append]
  omega
theorem len_le {ps : List (List Pt)} {k : Nat} (h : (k : Int) < (ps.length : Int)) : (ps.getD k []).length ≤ total ps := by
  have := tot_succ h; have := tot_le ps (k + 1); omega
theorem ck1 {ps : List (List Pt)} {k : Nat} (hI : total (ps.take k) ≤ 4096) (h : (k : Int) < (ps.length : Int)) (hl : (ps.getD k []).length ≤ 281474976710656) :
    IntKind.i64.wrap ((total (ps.take k) : Int) + ((ps.getD k []).length : Int)) = (total (ps.take (k + 1)) : Int) := by
  rw [tot_succ h, w64 (by omega) (by omega)]; omega
theorem ck2 {ps : List (List Pt)} {k : Nat} (h1 : k ≤ ps.length) (h2 : total (ps.take k) ≤ 4096) (hc : (ps.length : Int) ≤ (k : Int)) : total ps ≤ 4096 := by
  rw [List.take_of_length_le (by omega)] at h2; exact h2
theorem ru {rule : Int} (h : (rule != 0 && rule != 1) = false) : ¬ (rule ≠ 0 ∧ rule ≠ 1) := by
  intro ⟨h1, h2⟩; simp [h1, h2] at h
theorem ce1 {ps : List (List Pt)} {rule : Int} (hc : ¬ rule = 0 ∧ ¬ rule = 1) : 8 = checkE ps rule := by rw [checkE, if_pos hc]
theorem ce2 {ps : List (List Pt)} {rule : Int} {k : Nat} (hr : (rule != 0 && rule != 1) = false) (hc : 4096 < (total (ps.take (k + 1)) : Int)) : 3 = checkE ps rule := by
  have := tot_le ps (k + 1)
  rw [checkE, if_neg (ru hr), if_pos (by omega)]
theorem ptOk_spec {p : Pt} : ptOk p = true ↔ -16777216 ≤ p.x ∧ p.x ≤ 16777216 ∧ -16777216 ≤ p.y ∧ p.y ≤ 16777216 := by
  simp only [ptOk, Bool.and_eq_true, decide_eq_true_eq, and_assoc]
theorem ce3 {ps : List (List Pt)} {rule : Int} {j i : Nat} (hr : (rule != 0 && rule != 1) = false) (hT : total ps ≤ 4096) (hj : (j : Int) < (ps.length : Int)) (hi : (i : Int) < ((ps.getD j []).length : Int))
    (hc : ((((ps.getD j []).getD i ⟨0, 0⟩).x < -16777216 ∨ 16777216 < ((ps.getD j []).getD i ⟨0, 0⟩).x) ∨ ((ps.getD j []).getD i ⟨0, 0⟩).y < -16777216) ∨ 16777216 < ((ps.getD j []).getD i ⟨0, 0⟩).y) : 2 = checkE ps rule := by
  rw [checkE, if_neg (ru hr), if_neg (by omega), if_neg]
  intro h
  have h1 := List.all_eq_true.1 h _ (getD_mem (z := ([] : List Pt)) hj)
  have h2 := ptOk_spec.1 (List.all_eq_true.1 h1 _ (getD_mem (z := (⟨0, 0⟩ : Pt)) hi))
  omega
theorem ce4 {ps : List (List Pt)} {rule : Int} {j : Nat} (hr : (rule != 0 && rule != 1) = false) (hT : total ps ≤ 4096) (h : (ps.take j).all (fun p => p.all ptOk) = true) (hc : (ps.length : Int) ≤ (j : Int)) : 0 = checkE ps rule := by
  rw [List.take_of_length_le (by omega)] at h
  rw [checkE, if_neg (ru hr), if_neg (by omega), if_pos h]
theorem ce5 {ps : List (List Pt)} {j i : Nat} (hj : (j : Int) < (ps.length : Int)) (h : (ps.take j).all (fun p => p.all ptOk) = true) (h2 : ((ps.getD j []).take i).all ptOk = true) (hc : ((ps.getD j []).length : Int) ≤ (i : Int)) : (ps.take (j + 1)).all (fun p => p.all ptOk) = true := by
  rw [List.take_of_length_le (by omega)] at h2
  rw [take_succ' (z := ([] : List Pt)) hj, List.all_append, h]
  simp only [List.all_cons, List.all_nil, h2, Bool.and_self]
theorem ce6 {p : List Pt} {i : Nat} (hi : (i : Int) < (p.length : Int)) (h : (p.take i).all ptOk = true) (hc : ((-16777216 ≤ (p.getD i ⟨0, 0⟩).x ∧ (p.getD i ⟨0, 0⟩).x ≤ 16777216) ∧ -16777216 ≤ (p.getD i ⟨0, 0⟩).y) ∧ (p.getD i ⟨0, 0⟩).y ≤ 16777216) : (p.take (i + 1)).all ptOk = true := by
  rw [take_succ' (z := (⟨0, 0⟩ : Pt)) hi, List.all_append, h]
  have : ptOk (p.getD i ⟨0, 0⟩) = true := ptOk_spec.2 (by omega)
  simp only [List.all_cons, List.all_nil, this, Bool.and_self]
theorem check0 {ps : List (List Pt)} (h : checkE ps 0 = 0) : total ps ≤ 4096 ∧ ∀ p ∈ ps, ∀ q ∈ p, -16777216 ≤ q.x ∧ q.x ≤ 16777216 ∧ -16777216 ≤ q.y ∧ q.y ≤ 16777216 := by
  unfold checkE at h
  rw [if_neg (by simp)] at h
  split at h
  · omega
  · split at h
    · rename_i h1 h2
      refine ⟨by omega, fun p hp q hq => ptOk_spec.1 (List.all_eq_true.1 (List.all_eq_true.1 h2 p hp) q hq)⟩
    · omega
theorem check_any {ps : List (List Pt)} {rule : Int} (h : checkE ps rule = 0) : checkE ps 0 = 0 ∧ (rule = 0 ∨ rule = 1) := by
  unfold checkE at h ⊢
  split at h
  · omega
  · rename_i hr
    rw [if_neg (by simp)]
    exact ⟨h, by omega⟩
end Go.Rect

set_option linter.unusedSimpArgs false
set_option linter.unusedVariables false
namespace Go.Rect
open Go.Eng
/-! ### Twice -/
theorem nx1 {k n : Nat} (h : (k : Int) < (n : Int)) (hn : n ≤ 281474976710656) : (IntKind.i64.wrap ((k : Int) + 1)).tmod (n : Int) = (((k + 1) % n : Nat) : Int) := by
  rw [w64 (by omega) (by omega), Int.tmod_eq_emod_of_nonneg (by omega), Int.natCast_emod]; rfl
theorem nx2 {k n : Nat} (h : (k : Int) < (n : Int)) : (((k + 1) % n : Nat) : Int) < (n : Int) := by
  have := Nat.mod_lt (k + 1) (show 0 < n by omega); omega
theorem nx3 {k n : Nat} : (0 : Int) ≤ (((k + 1) % n : Nat) : Int) := Int.natCast_nonneg _
theorem nxtE (p : List Pt) (k : Nat) : p.getD ((k + 1) % p.length) ⟨0, 0⟩ = nxt p k := rfl
theorem nxt_mem {p : List Pt} {k : Nat} (h : (k : Int) < (p.length : Int)) : nxt p k ∈ p := getD_mem (by have := nx2 h; exact this)
theorem mul_bd {a b : Int} (h1 : -16777216 ≤ a) (h2 : a ≤ 16777216) (h3 : -16777216 ≤ b) (h4 : b ≤ 16777216) : -281474976710656 ≤ a * b ∧ a * b ≤ 281474976710656 := by
  have h := Int.natAbs_mul a b
  have : a.natAbs * b.natAbs ≤ 16777216 * 16777216 := Nat.mul_le_mul (by omega) (by omega)
  omega
theorem cross_bd {a b : Pt} (ha : -16777216 ≤ a.x ∧ a.x ≤ 16777216 ∧ -16777216 ≤ a.y ∧ a.y ≤ 16777216) (hb : -16777216 ≤ b.x ∧ b.x ≤ 16777216 ∧ -16777216 ≤ b.y ∧ b.y ≤ 16777216) : -562949953421312 ≤ crossP a b ∧ crossP a b ≤ 562949953421312 := by
  have h1 := mul_bd ha.1 ha.2.1 hb.2.2.1 hb.2.2.2; have h2 := mul_bd hb.1 hb.2.1 ha.2.2.1 ha.2.2.2
  unfold crossP; omega
theorem twiceK_succ (p : List Pt) (k : Nat) : twiceK p (k + 1) = twiceK p k + crossP (p.getD k ⟨0, 0⟩) (nxt p k) := by
  simp [twiceK, List.range_succ]
theorem twiceK_bd {p : List Pt} (hp : ∀ q ∈ p, -16777216 ≤ q.x ∧ q.x ≤ 16777216 ∧ -16777216 ≤ q.y ∧ q.y ≤ 16777216) : ∀ (k : Nat), k ≤ p.length → -562949953421312 * (k : Int) ≤ twiceK p k ∧ twiceK p k ≤ 562949953421312 * (k : Int)
  | 0, _ => by simp [twiceK]
  | k + 1, h => by
    have ih := twiceK_bd hp k (by omega)
    have hk : (k : Int) < (p.length : Int) := by omega
    have c := cross_bd (hp _ (getD_mem (z := ⟨0, 0⟩) hk)) (hp _ (nxt_mem hk))
    rw [twiceK_succ]; omega
theorem one_len {p : List Pt} (h : checkE [p] 0 = 0) : p.length ≤ 4096 ∧ ∀ q ∈ p, -16777216 ≤ q.x ∧ q.x ≤ 16777216 ∧ -16777216 ≤ q.y ∧ q.y ≤ 16777216 := by
  have := check0 h
  simpa [total] using this
theorem tc1 {p : List Pt} {k : Nat} (h : checkE [p] 0 = 0) (hk : (k : Int) < (p.length : Int)) :
    IntKind.i64.wrap (twiceK p k + IntKind.i64.wrap (IntKind.i64.wrap ((p.getD k ⟨0, 0⟩).x * (nxt p k).y) - IntKind.i64.wrap ((nxt p k).x * (p.getD k ⟨0, 0⟩).y))) = twiceK p (k + 1) := by
  obtain ⟨h1, h2⟩ := one_len h
  have ha := h2 _ (getD_mem (z := ⟨0, 0⟩) hk); have hb := h2 _ (nxt_mem hk)
  have m1 := mul_bd ha.1 ha.2.1 hb.2.2.1 hb.2.2.2; have m2 := mul_bd hb.1 hb.2.1 ha.2.2.1 ha.2.2.2
  have t := twiceK_bd h2 k (by omega)
  rw [w64 (n := (p.getD k ⟨0, 0⟩).x * (nxt p k).y) (by omega) (by omega), w64 (n := (nxt p k).x * (p.getD k ⟨0, 0⟩).y) (by omega) (by omega), twiceK_succ]
  unfold crossP
  rw [w64 (n := (p.getD k ⟨0, 0⟩).x * (nxt p k).y - (nxt p k).x * (p.getD k ⟨0, 0⟩).y) (by omega) (by omega), w64 (by omega) (by omega)]
theorem tc2 {p : List Pt} (hc : ¬ checkE [p] 0 = 0) : 0 = twiceI p := by rw [twiceI, if_neg hc]
theorem tc3 {p : List Pt} {k : Nat} (h : checkE [p] 0 = 0) (hI : k ≤ p.length) (hc : (p.length : Int) ≤ (k : Int)) : twiceK p k = twiceI p := by
  rw [twiceI, if_pos h]; congr 1; omega
/-! ### Box -/
structure B4 where
  x0 : Int
  y0 : Int
  x1 : Int
  y1 : Int
def b0 : B4 := ⟨1048577, 1048577, -1048577, -1048577⟩
def bstep (b : B4) (p : Pt) : B4 := ⟨min b.x0 (p.x / 16), min b.y0 (p.y / 16), max b.x1 (p.x / 16), max b.y1 (p.y / 16)⟩
def bAll (l : List Pt) : B4 := l.foldl bstep b0
def seenP (ps : List (List Pt)) (j i : Nat) : List Pt := (ps.take j).flatten ++ (ps.getD j []).take i
def bK (ps : List (List Pt)) (j i : Nat) : B4 := bAll (seenP ps j i)
def boxB (b : B4) : Rc := if min b.x1 1048575 < b.x0 ∨ min b.y1 1048575 < b.y0 then zR else ⟨b.x0, b.y0, min b.x1 1048575 - b.x0 + 1, min b.y1 1048575 - b.y0 + 1⟩
def boxR (ps : List (List Pt)) : Rc := if checkE ps 0 = 0 then boxB (bAll ps.flatten) else zR
theorem seen_next {ps : List (List Pt)} {j i : Nat} (h : (i : Int) < ((ps.getD j []).length : Int)) : seenP ps j (i + 1) = seenP ps j i ++ [(ps.getD j []).getD i ⟨0, 0⟩] := by
  rw [seenP, take_succ' (z := (⟨0, 0⟩ : Pt)) h, ← List.append_assoc, seenP]
theorem seen_over {ps : List (List Pt)} {j i : Nat} (hj : (j : Int) < (ps.length : Int)) (h : ((ps.getD j []).length : Int) ≤ (i : Int)) : seenP ps (j + 1) 0 = seenP ps j i := by
  rw [seenP, seenP, take_succ' (z := ([] : List Pt)) hj, List.take_of_length_le (show (ps.getD j []).length ≤ i by omega)]; simp
theorem seen_all {ps : List (List Pt)} {j : Nat} (h : (ps.length : Int) ≤ (j : Int)) : seenP ps j 0 = ps.flatten := by
  rw [seenP, List.take_of_length_le (by omega)]; simp
theorem fl16 (n : Int) : floorI n 16 = n / 16 := floor_pos (by omega)
theorem bK_next {ps : List (List Pt)} {j i : Nat} (h : (i : Int) < ((ps.getD j []).length : Int)) : bK ps j (i + 1) = bstep (bK ps j i) ((ps.getD j []).getD i ⟨0, 0⟩) := by
  rw [bK, seen_next h, bAll, List.foldl_append]; rfl
theorem bK_over {ps : List (List Pt)} {j i : Nat} (hj : (j : Int) < (ps.length : Int)) (h : ((ps.getD j []).length : Int) ≤ (i : Int)) : bK ps (j + 1) 0 = bK ps j i := by rw [bK, seen_over hj h]; rfl
theorem pts_in {ps : List (List Pt)} (h : checkE ps 0 = 0) {p : Pt} (hp : p ∈ ps.flatten) : -16777216 ≤ p.x ∧ p.x ≤ 16777216 ∧ -16777216 ≤ p.y ∧ p.y ≤ 16777216 := by
  obtain ⟨l, h1, h2⟩ := List.mem_flatten.1 hp
  exact (check0 h).2 l h1 p h2
theorem pt_in {ps : List (List Pt)} (h : checkE ps 0 = 0) {j i : Nat} (hj : (j : Int) < (ps.length : Int)) (hi : (i : Int) < ((ps.getD j []).length : Int)) : -16777216 ≤ ((ps.getD j []).getD i ⟨0, 0⟩).x ∧ ((ps.getD j []).getD i ⟨0, 0⟩).x ≤ 16777216 ∧ -16777216 ≤ ((ps.getD j []).getD i ⟨0, 0⟩).y ∧ ((ps.getD j []).getD i ⟨0, 0⟩).y ≤ 16777216 :=
  (check0 h).2 _ (getD_mem hj) _ (getD_mem hi)
theorem bAll_bd {l : List Pt} (h : ∀ p ∈ l, -16777216 ≤ p.x ∧ p.x ≤ 16777216 ∧ -16777216 ≤ p.y ∧ p.y ≤ 16777216) : ∀ (b : B4), -1048576 ≤ b.x0 ∧ b.x0 ≤ 1048577 ∧ -1048576 ≤ b.y0 ∧ b.y0 ≤ 1048577 ∧ -1048577 ≤ b.x1 ∧ b.x1 ≤ 1048576 ∧ -1048577 ≤ b.y1 ∧ b.y1 ≤ 1048576 →
    -1048576 ≤ (l.foldl bstep b).x0 ∧ (l.foldl bstep b).x0 ≤ 1048577 ∧ -1048576 ≤ (l.foldl bstep b).y0 ∧ (l.foldl bstep b).y0 ≤ 1048577 ∧ -1048577 ≤ (l.foldl bstep b).x1 ∧ (l.foldl bstep b).x1 ≤ 1048576 ∧ -1048577 ≤ (l.foldl bstep b).y1 ∧ (l.foldl bstep b).y1 ≤ 1048576 := by
  induction l with
  | nil => intro b hb; exact hb
  | cons p l ih =>
    intro b hb
    have hp := h p (by simp)
    exact ih (fun q hq => h q (by simp [hq])) (bstep b p) (by simp only [bstep]; omega)
theorem boxB_bd {ps : List (List Pt)} (h : checkE ps 0 = 0) : -1048576 ≤ (bAll ps.flatten).x0 ∧ (bAll ps.flatten).x0 ≤ 1048577 ∧ -1048576 ≤ (bAll ps.flatten).y0 ∧ (bAll ps.flatten).y0 ≤ 1048577 ∧ -1048577 ≤ (bAll ps.flatten).x1 ∧ (bAll ps.flatten).x1 ≤ 1048576 ∧ -1048577 ≤ (bAll ps.flatten).y1 ∧ (bAll ps.flatten).y1 ≤ 1048576 :=
  bAll_bd (fun _ hp => pts_in h hp) b0 (by simp [b0])
theorem bx0 {ps : List (List Pt)} (hc : ¬ checkE ps 0 = 0) : zR = boxR ps := by rw [boxR, if_neg hc]
theorem bx1 {ps : List (List Pt)} {j : Nat} (h : checkE ps 0 = 0) (hj : (ps.length : Int) ≤ (j : Int)) (hc : min (bK ps j 0).x1 1048575 < (bK ps j 0).x0 ∨ min (bK ps j 0).y1 1048575 < (bK ps j 0).y0) : zR = boxR ps := by
  rw [bK, seen_all hj] at hc
  rw [boxR, if_pos h, boxB, if_pos hc]
theorem bx2 {ps : List (List Pt)} {j : Nat} (h : checkE ps 0 = 0) (hj : (ps.length : Int) ≤ (j : Int)) (hc : (bK ps j 0).x0 ≤ min (bK ps j 0).x1 1048575 ∧ (bK ps j 0).y0 ≤ min (bK ps j 0).y1 1048575) :
    (⟨(bK ps j 0).x0, (bK ps j 0).y0, IntKind.i64.wrap (IntKind.i64.wrap (min (bK ps j 0).x1 1048575 - (bK ps j 0).x0) + 1), IntKind.i64.wrap (IntKind.i64.wrap (min (bK ps j 0).y1 1048575 - (bK ps j 0).y0) + 1)⟩ : Rc) = boxR ps := by
  rw [bK, seen_all hj] at hc ⊢
  have b := boxB_bd h
  rw [boxR, if_pos h, boxB, if_neg (by omega)]
  rw [w64 (n := min (bAll ps.flatten).x1 1048575 - (bAll ps.flatten).x0) (by omega) (by omega), w64 (n := min (bAll ps.flatten).y1 1048575 - (bAll ps.flatten).y0) (by omega) (by omega), w64 (by omega) (by omega), w64 (by omega) (by omega)]
/-- The reference's way: the first point begins. -/
def rb (l : List Pt) : B4 := if l = [] then ⟨0, 0, 0, 0⟩ else bAll l
def rcut (l : List Pt) (p : Pt) : B4 := if l = [] then ⟨p.x / 16, p.y / 16, p.x / 16, p.y / 16⟩ else bAll l
theorem rb_ne {l : List Pt} (h : l.isEmpty = false) : rb l = bAll l ∧ ∀ p, rcut l p = bAll l := by
  have : l ≠ [] := by intro e; subst e; simp at h
  simp [rb, rcut, this]
theorem rcut_e {l : List Pt} (p : Pt) (h : l.isEmpty = true) : rcut l p = ⟨p.x / 16, p.y / 16, p.x / 16, p.y / 16⟩ := by
  have : l = [] := by simpa using h
  simp [rcut, this]
theorem rcut_step {l : List Pt} {p : Pt} (h : -16777216 ≤ p.x ∧ p.x ≤ 16777216 ∧ -16777216 ≤ p.y ∧ p.y ≤ 16777216) : (⟨min (rcut l p).x0 (p.x / 16), min (rcut l p).y0 (p.y / 16), max (rcut l p).x1 (p.x / 16), max (rcut l p).y1 (p.y / 16)⟩ : B4) = rb (l ++ [p]) := by
  have e : rb (l ++ [p]) = bstep (bAll l) p := by simp [rb, bAll]
  rw [e]
  by_cases hl : l = []
  · subst hl
    simp only [rcut, if_true, bAll, List.foldl_nil, bstep, b0]
    congr 1 <;> omega
  · simp only [rcut, hl, if_false, bstep]
theorem rbx0 {ps : List (List Pt)} {j i : Nat} (hj : (j : Int) < (ps.length : Int)) (h : ((ps.getD j []).length : Int) ≤ (i : Int)) : rb (seenP ps (j + 1) 0) = rb (seenP ps j i) ∧ (seenP ps (j + 1) 0).isEmpty = (seenP ps j i).isEmpty := by rw [seen_over hj h]; exact ⟨rfl, rfl⟩
theorem rbx1 {ps : List (List Pt)} {j : Nat} (h : checkE ps 0 = 0) (hj : (ps.length : Int) ≤ (j : Int)) (hc : ((seenP ps j 0).isEmpty = true ∨ min (rb (seenP ps j 0)).x1 1048575 < (rb (seenP ps j 0)).x0) ∨ min (rb (seenP ps j 0)).y1 1048575 < (rb (seenP ps j 0)).y0) : zR = boxR ps := by
  rw [seen_all hj] at hc
  rw [boxR, if_pos h, boxB, if_pos]
  by_cases e : ps.flatten = []
  · rw [e]; left; simp only [bAll, b0, List.foldl_nil]; omega
  · have e' : (ps.flatten).isEmpty = false := by simpa using e
    rw [(rb_ne e').1, e'] at hc
    simpa using hc
theorem rbx2 {ps : List (List Pt)} {j : Nat} (h : checkE ps 0 = 0) (hj : (ps.length : Int) ≤ (j : Int)) (hc : ((seenP ps j 0).isEmpty = false ∧ (rb (seenP ps j 0)).x0 ≤ min (rb (seenP ps j 0)).x1 1048575) ∧ (rb (seenP ps j 0)).y0 ≤ min (rb (seenP ps j 0)).y1 1048575) :
    (⟨(rb (seenP ps j 0)).x0, (rb (seenP ps j 0)).y0, IntKind.i64.wrap (IntKind.i64.wrap (min (rb (seenP ps j 0)).x1 1048575 - (rb (seenP ps j 0)).x0) + 1), IntKind.i64.wrap (IntKind.i64.wrap (min (rb (seenP ps j 0)).y1 1048575 - (rb (seenP ps j 0)).y0) + 1)⟩ : Rc) = boxR ps := by
  rw [(rb_ne hc.1.1).1] at hc ⊢
  exact bx2 h hj ⟨hc.1.2, hc.2⟩
theorem b4e {b c : B4} (h : b = c) : b.x0 = c.x0 ∧ b.y0 = c.y0 ∧ b.x1 = c.x1 ∧ b.y1 = c.y1 := by subst h; exact ⟨rfl, rfl, rfl, rfl⟩
end Go.Rect

set_option linter.unusedSimpArgs false
set_option linter.unusedVariables false
namespace Go.Rect
open Go.Eng
/-! ### Edges and samples -/
structure Ed where
  a : Pt
  b : Pt
  deriving DecidableEq, Inhabited
def zE : Ed := ⟨⟨0, 0⟩, ⟨0, 0⟩⟩
def edC (s : Ed) : List D := [.i s.a.x, .i s.a.y, .i s.b.x, .i s.b.y]
def edD (s : Ed) : D := .agg (edC s)
def unEd : List D → Ed
  | [.i x, .i y, .i z, .i w] => ⟨⟨x, y⟩, ⟨z, w⟩⟩
  | _ => zE
theorem unEdE (s : Ed) : unEd [.i s.a.x, .i s.a.y, .i s.b.x, .i s.b.y] = s := rfl
theorem mapEd (l : List Ed) : (l.map edC).map unEd = l := by
  induction l with
  | nil => rfl
  | cons a l ih => simp [ih, edC, unEd]
theorem getDEd (l : List Ed) (k : Nat) : (l.map edC).getD k [.i 0, .i 0, .i 0, .i 0] = edC (l.getD k zE) := by
  simp only [List.getD_eq_getElem?_getD, List.getElem?_map]
  cases l[k]? <;> rfl
theorem plEd : ∀ (l : List Ed), D.plainLL (l.map edC) = true
  | [] => rfl
  | a :: l => by simp only [List.map_cons, D.plainLL, plEd l, edC, D.plainL, D.plain, Bool.and_self]
theorem tkEd (l : List Ed) : (l.map edC).take l.length = l.map edC := List.take_of_length_le (by simp)
theorem appEd (l : List Ed) (a b : Pt) : l.map edC ++ [[.i a.x, .i a.y, .i b.x, .i b.y]] = (l ++ [(⟨a, b⟩ : Ed)]).map edC := by simp [edC]

def edgesOf (p : List Pt) : List Ed := (List.range p.length).map fun i => ⟨p.getD i ⟨0, 0⟩, nxt p i⟩
def allE (ps : List (List Pt)) : List Ed := ps.flatMap edgesOf
def keepE (y0 y1 : Int) (s : Ed) : Bool := !(s.a.y == s.b.y) && decide (min s.a.y s.b.y < y1) && decide (y0 < max s.a.y s.b.y)
def edgesL (ps : List (List Pt)) (y0 y1 : Int) : List Ed := (allE ps).filter (keepE y0 y1)
def crossI (s : Ed) (x y : Int) : Int :=
  if s.b.y < s.a.y then (if y < s.b.y ∨ s.a.y ≤ y then 0 else if (2 * x + 1) * (s.a.y - s.b.y) < 2 * s.b.x * (s.a.y - s.b.y) + (2 * y + 1 - 2 * s.b.y) * (s.a.x - s.b.x) then -1 else 0)
  else (if y < s.a.y ∨ s.b.y ≤ y then 0 else if (2 * x + 1) * (s.b.y - s.a.y) < 2 * s.a.x * (s.b.y - s.a.y) + (2 * y + 1 - 2 * s.a.y) * (s.b.x - s.a.x) then 1 else 0)
def befN (s : Ed) (y : Int) : Int := 2 * (s.b.y - s.a.y) * s.a.x + (2 * y + 1 - 2 * s.a.y) * (s.b.x - s.a.x) - (s.b.y - s.a.y)
def befI (s : Ed) (y : Int) : Int := -floorI (-befN s y) (2 * (s.b.y - s.a.y))
def onRow (s : Ed) (y : Int) : Bool := !(decide (y < min s.a.y s.b.y) || decide (max s.a.y s.b.y ≤ y))
def sgn (s : Ed) : Int := if s.b.y < s.a.y then -1 else 1
theorem cross_off {s : Ed} {x y : Int} (h : onRow s y = false) : crossI s x y = 0 := by
  simp only [onRow, Bool.not_eq_false', Bool.or_eq_true, decide_eq_true_eq] at h
  unfold crossI
  split
  · rw [if_pos (by omega)]
  · rw [if_pos (by omega)]
theorem floor_neg {n h : Int} (hh : h < 0) (hn : n ≠ -9223372036854775808 ∨ h ≠ -1) : floorI n h = (-n) / (-h) := by
  rw [floorI, if_neg (by omega), if_neg (by omega), ← Int.neg_fdiv_neg, Int.fdiv_eq_ediv_of_nonneg _ (by omega)]
theorem cross_on {s : Ed} {x y : Int} (h : onRow s y = true) : crossI s x y = sgn s * (if x < befI s y then 1 else 0) := by
  simp only [onRow, Bool.not_eq_true', Bool.or_eq_false_iff, decide_eq_false_iff_not] at h
  unfold crossI sgn
  by_cases hs : s.b.y < s.a.y
  · rw [if_pos hs, if_pos hs, if_neg (by omega)]
    have hb : x < befI s y ↔ (2 * x + 1) * (s.a.y - s.b.y) < 2 * s.b.x * (s.a.y - s.b.y) + (2 * y + 1 - 2 * s.b.y) * (s.a.x - s.b.x) := by
      have e1 : befI s y = -(befN s y / (2 * (s.a.y - s.b.y))) := by
        rw [befI, floor_neg (by omega) (by right; omega)]
        congr 2 <;> omega
      rw [e1]
      have e2 : x < -(befN s y / (2 * (s.a.y - s.b.y))) ↔ befN s y / (2 * (s.a.y - s.b.y)) < -x := by omega
      rw [e2, Int.ediv_lt_iff_lt_mul (by omega)]
      unfold befN
      simp only [Int.mul_sub, Int.sub_mul, Int.mul_add, Int.add_mul, Int.one_mul, Int.neg_mul, Int.mul_neg, Int.mul_comm, Int.mul_left_comm, Int.mul_assoc]
      constructor <;> intro h' <;> omega
    by_cases hx : x < befI s y
    · rw [if_pos hx, if_pos (hb.1 hx)]; rfl
    · rw [if_neg hx, if_neg (fun h => hx (hb.2 h))]; rfl
  · rw [if_neg hs, if_neg hs, if_neg (by omega)]
    have hb : x < befI s y ↔ (2 * x + 1) * (s.b.y - s.a.y) < 2 * s.a.x * (s.b.y - s.a.y) + (2 * y + 1 - 2 * s.a.y) * (s.b.x - s.a.x) := by
      have e1 : befI s y = -(-befN s y / (2 * (s.b.y - s.a.y))) := by rw [befI, floor_pos (by omega)]
      rw [e1]
      have e2 : x < -(-befN s y / (2 * (s.b.y - s.a.y))) ↔ -befN s y / (2 * (s.b.y - s.a.y)) < -x := by omega
      rw [e2, Int.ediv_lt_iff_lt_mul (by omega)]
      unfold befN
      simp only [Int.mul_sub, Int.sub_mul, Int.mul_add, Int.add_mul, Int.one_mul, Int.neg_mul, Int.mul_neg, Int.mul_comm, Int.mul_left_comm, Int.mul_assoc]
      constructor <;> intro h' <;> omega
    by_cases hx : x < befI s y
    · rw [if_pos hx, if_pos (hb.1 hx)]; rfl
    · rw [if_neg hx, if_neg (fun h => hx (hb.2 h))]; rfl

/-! ### Sums -/
def insN (ps : List (List Pt)) (x y : Int) : Int := ((allE ps).map fun s => crossI s x y).sum
def insB (rule n : Int) : Bool := if rule = 1 then !(n.tmod 2 == 0) else !(n == 0)
def b2i (b : Bool) : Int := if b then 1 else 0
def rowC (ps : List (List Pt)) (rule x y : Int) (n : Nat) : Int := ((List.range n).map fun (i : Nat) => b2i (insB rule (insN ps (x + i) y))).sum
def cntC (ps : List (List Pt)) (rule x y : Int) (n : Nat) : Int := ((List.range n).map fun (j : Nat) => rowC ps rule (16 * x) (16 * y + j) 16).sum
def valI (ps : List (List Pt)) (rule x y : Int) : Int := divI (65535 * cntC ps rule x y 16) 256
theorem sum_filter_zero {α : Type} (f : α → Int) (k : α → Bool) : ∀ (l : List α), (∀ s ∈ l, k s = false → f s = 0) → ((l.filter k).map f).sum = (l.map f).sum
  | [], _ => rfl
  | a :: l, h => by
    have ih := sum_filter_zero f k l fun s hs => h s (by simp [hs])
    cases e : k a
    · simp [e, ih, h a (by simp) e]
    · simp [e, ih]
theorem keep_off {s : Ed} {y0 y1 y x : Int} (h : keepE y0 y1 s = false) (h1 : y0 ≤ y) (h2 : y < y1) : crossI s x y = 0 := by
  apply cross_off
  simp only [keepE, Bool.and_eq_false_iff, Bool.not_eq_false', beq_iff_eq, decide_eq_false_iff_not] at h
  simp only [onRow, Bool.not_eq_false', Bool.or_eq_true, decide_eq_true_eq]
  omega
theorem edges_sum (ps : List (List Pt)) {y0 y1 x y : Int} (h1 : y0 ≤ y) (h2 : y < y1) : ((edgesL ps y0 y1).map fun s => crossI s x y).sum = insN ps x y :=
  sum_filter_zero _ _ _ fun _ _ hk => keep_off hk h1 h2
/-! ### Turns -/
def posI (s : Ed) (y x0 : Int) (n : Nat) : Nat := (min (max (befI s y - x0) 0) ((n : Int) - 1)).toNat
def wstep (y x0 : Int) (ts : List Int) (s : Ed) : List Int :=
  if onRow s y then
    ((ts.set 0 (ts.getD 0 0 + sgn s)).set (posI s y x0 ts.length) ((ts.set 0 (ts.getD 0 0 + sgn s)).getD (posI s y x0 ts.length) 0 - sgn s))
  else ts
def windK (l : List Ed) (y x0 : Int) (n k : Nat) : List Int := (l.take k).foldl (wstep y x0) (List.replicate n 0)
def windL (l : List Ed) (y x0 : Int) (n : Nat) : List Int := l.foldl (wstep y x0) (List.replicate n 0)
def windB (l : List Ed) (y : Int) : Bool := l.any fun s => onRow s y
theorem wstep_len (y x0 : Int) (ts : List Int) (s : Ed) : (wstep y x0 ts s).length = ts.length := by
  unfold wstep; split <;> simp
theorem wind_len (y x0 : Int) : ∀ (l : List Ed) (ts : List Int), (l.foldl (wstep y x0) ts).length = ts.length
  | [], ts => rfl
  | s :: l, ts => by rw [List.foldl_cons, wind_len y x0 l, wstep_len]
theorem windK_len (l : List Ed) (y x0 : Int) (n k : Nat) : (windK l y x0 n k).length = n := by rw [windK, wind_len]; simp
theorem windK_succ {l : List Ed} {y x0 : Int} {n k : Nat} (h : (k : Int) < (l.length : Int)) : windK l y x0 n (k + 1) = wstep y x0 (windK l y x0 n k) (l.getD k zE) := by
  rw [windK, take_succ' (z := zE) h, List.foldl_append]; rfl
theorem windK_all {l : List Ed} {y x0 : Int} {n k : Nat} (h : (l.length : Int) ≤ (k : Int)) : windK l y x0 n k = windL l y x0 n := by
  rw [windK, List.take_of_length_le (by omega)]; rfl
def psum (ts : List Int) (c : Nat) : Int := (ts.take c).sum
theorem psum_set {ts : List Int} {p : Nat} {v : Int} (hp : p < ts.length) : ∀ {c : Nat}, psum (ts.set p v) c = psum ts c + (if p < c then v - ts.getD p 0 else 0) := by
  induction ts generalizing p with
  | nil => simp at hp
  | cons a ts ih =>
    intro c
    cases c with
    | zero => simp [psum]
    | succ c =>
      cases p with
      | zero => simp [psum]; omega
      | succ p =>
        have := ih (p := p) (by simpa using hp) (c := c)
        simp only [psum, List.set_cons_succ, List.take_succ_cons, List.sum_cons, List.getD_cons_succ] at this ⊢
        rw [this]
        by_cases h : p < c
        · rw [if_pos h, if_pos (by omega)]; omega
        · rw [if_neg h, if_neg (by omega)]; omega
theorem psum_rep (n c : Nat) : psum (List.replicate n 0) c = 0 := by
  simp only [psum, List.take_replicate]
  generalize min c n = m
  induction m with
  | zero => rfl
  | succ m ih => simp [List.replicate_succ, ih]
theorem pos_lt (s : Ed) (y x0 : Int) {n : Nat} (h : 0 < n) : posI s y x0 n < n := by unfold posI; omega
theorem wstep_sum {ts : List Int} {s : Ed} {y x0 : Int} {c : Nat} (hn : 0 < ts.length) (hc : c + 1 < ts.length) : psum (wstep y x0 ts s) (c + 1) = psum ts (c + 1) + crossI s (x0 + c) y := by
  unfold wstep
  cases h : onRow s y
  · simp only [Bool.false_eq_true, if_false, cross_off h, Int.add_zero]
  · simp only [if_true]
    have hp := pos_lt s y x0 hn
    rw [psum_set (by simpa using hp), psum_set hn, if_pos (by omega), cross_on h]
    have e : (posI s y x0 ts.length < c + 1) ↔ ¬ (x0 + c < befI s y) := by unfold posI; omega
    by_cases hx : x0 + (c : Int) < befI s y
    · rw [if_pos hx, if_neg (by rw [e]; simpa using hx)]; omega
    · rw [if_neg hx, if_pos (e.2 hx)]; omega
theorem wind_sum {y x0 : Int} {c : Nat} : ∀ (l : List Ed) (ts : List Int), 0 < ts.length → c + 1 < ts.length → psum (l.foldl (wstep y x0) ts) (c + 1) = psum ts (c + 1) + (l.map fun s => crossI s (x0 + c) y).sum
  | [], ts, _, _ => by simp
  | s :: l, ts, hn, hc => by
    rw [List.foldl_cons, wind_sum l _ (by rw [wstep_len]; exact hn) (by rw [wstep_len]; exact hc), wstep_sum hn hc]
    simp; omega
theorem windL_sum {l : List Ed} {y x0 : Int} {n c : Nat} (hc : c + 1 < n) : psum (windL l y x0 n) (c + 1) = (l.map fun s => crossI s (x0 + c) y).sum := by
  rw [windL, wind_sum l _ (by simp; omega) (by simpa using hc), psum_rep]; omega
theorem wind_none {l : List Ed} {y : Int} (h : windB l y = false) (x : Int) : (l.map fun s => crossI s x y).sum = 0 := by
  induction l with
  | nil => rfl
  | cons s l ih =>
    simp only [windB, List.any_cons, Bool.or_eq_false_iff] at h
    simp only [List.map_cons, List.sum_cons, cross_off h.1]
    have := ih h.2; omega
end Go.Rect

set_option linter.unusedSimpArgs false
set_option linter.unusedVariables false
namespace Go.Rect
open Go.Eng
theorem mulG {u v : Int} (h1 : -67108865 ≤ u) (h2 : u ≤ 67108865) (h3 : -67108865 ≤ v) (h4 : v ≤ 67108865) : -4503599761588225 ≤ u * v ∧ u * v ≤ 4503599761588225 := by
  have h := Int.natAbs_mul u v
  have : u.natAbs * v.natAbs ≤ 67108865 * 67108865 := Nat.mul_le_mul (by omega) (by omega)
  omega
def PtOk (p : Pt) : Prop := -16777216 ≤ p.x ∧ p.x ≤ 16777216 ∧ -16777216 ≤ p.y ∧ p.y ≤ 16777216
def XOk (x : Int) : Prop := -16777216 ≤ x ∧ x ≤ 16777216
/-! ### crosses -/
theorem cr1 {a b : Pt} {x y : Int} (h : b.y < a.y) (hc : y < b.y ∨ a.y ≤ y) : 0 = crossI ⟨a, b⟩ x y := by
  simp only [crossI]; rw [if_pos h, if_pos hc]
theorem cr2 {a b : Pt} {x y : Int} (h : b.y < a.y) (h2 : b.y ≤ y ∧ y < a.y) (hc : (2 * x + 1) * (a.y - b.y) < 2 * b.x * (a.y - b.y) + (2 * y + 1 - 2 * b.y) * (a.x - b.x)) : -1 = crossI ⟨a, b⟩ x y := by
  simp only [crossI]; rw [if_pos h, if_neg (by omega), if_pos hc]
theorem cr3 {a b : Pt} {x y : Int} (h : b.y < a.y) (h2 : b.y ≤ y ∧ y < a.y) (hc : 2 * b.x * (a.y - b.y) + (2 * y + 1 - 2 * b.y) * (a.x - b.x) ≤ (2 * x + 1) * (a.y - b.y)) : 0 = crossI ⟨a, b⟩ x y := by
  simp only [crossI]; rw [if_pos h, if_neg (by omega), if_neg (by omega)]
theorem cr4 {a b : Pt} {x y : Int} (h : a.y ≤ b.y) (hc : y < a.y ∨ b.y ≤ y) : 0 = crossI ⟨a, b⟩ x y := by
  simp only [crossI]; rw [if_neg (by omega), if_pos hc]
theorem cr5 {a b : Pt} {x y : Int} (h : a.y ≤ b.y) (h2 : a.y ≤ y ∧ y < b.y) (hc : (2 * x + 1) * (b.y - a.y) < 2 * a.x * (b.y - a.y) + (2 * y + 1 - 2 * a.y) * (b.x - a.x)) : 1 = crossI ⟨a, b⟩ x y := by
  simp only [crossI]; rw [if_neg (by omega), if_neg (by omega), if_pos hc]
theorem cr6 {a b : Pt} {x y : Int} (h : a.y ≤ b.y) (h2 : a.y ≤ y ∧ y < b.y) (hc : 2 * a.x * (b.y - a.y) + (2 * y + 1 - 2 * a.y) * (b.x - a.x) ≤ (2 * x + 1) * (b.y - a.y)) : 0 = crossI ⟨a, b⟩ x y := by
  simp only [crossI]; rw [if_neg (by omega), if_neg (by omega), if_neg (by omega)]
theorem cross_1 (s : Ed) (x y : Int) : -1 ≤ crossI s x y ∧ crossI s x y ≤ 1 := by
  unfold crossI
  split
  · split
    · omega
    · split <;> omega
  · split
    · omega
    · split <;> omega
/-! ### inside -/
def crS (l : List Ed) (x y : Int) : Int := (l.map fun s => crossI s x y).sum
def insK (ps : List (List Pt)) (j i : Nat) (x y : Int) : Int := crS (allE (ps.take j)) x y + crS ((edgesOf (ps.getD j [])).take i) x y
theorem crS_append (l l' : List Ed) (x y : Int) : crS (l ++ l') x y = crS l x y + crS l' x y := by simp [crS]
theorem crS_bd (x y : Int) : ∀ (l : List Ed), -(l.length : Int) ≤ crS l x y ∧ crS l x y ≤ (l.length : Int)
  | [] => by simp [crS]
  | s :: l => by
    have := crS_bd x y l; have := cross_1 s x y
    simp only [crS, List.map_cons, List.sum_cons, List.length_cons] at *; omega
theorem edges_len (p : List Pt) : (edgesOf p).length = p.length := by simp [edgesOf]
theorem edges_get {p : List Pt} {i : Nat} (h : (i : Int) < (p.length : Int)) : (edgesOf p).getD i zE = ⟨p.getD i ⟨0, 0⟩, nxt p i⟩ := by
  have h' : i < p.length := by omega
  rw [List.getD_eq_getElem?_getD, edgesOf, List.getElem?_map, List.getElem?_range h']; rfl
theorem allE_len (ps : List (List Pt)) : (allE ps).length = total ps := by
  simp only [allE, List.length_flatMap, edges_len, total]
theorem insK_next {ps : List (List Pt)} {j i : Nat} {x y : Int} (h : (i : Int) < ((ps.getD j []).length : Int)) : insK ps j (i + 1) x y = insK ps j i x y + crossI ⟨(ps.getD j []).getD i ⟨0, 0⟩, nxt (ps.getD j []) i⟩ x y := by
  rw [insK, take_succ' (z := zE) (by rw [edges_len]; exact h), crS_append, edges_get h, insK]
  simp only [crS, List.map_cons, List.map_nil, List.sum_cons, List.sum_nil]; omega
theorem insK_over {ps : List (List Pt)} {j i : Nat} {x y : Int} (hj : (j : Int) < (ps.length : Int)) (h : ((ps.getD j []).length : Int) ≤ (i : Int)) : insK ps (j + 1) 0 x y = insK ps j i x y := by
  rw [insK, insK, List.take_of_length_le (show (edgesOf (ps.getD j [])).length ≤ i by rw [edges_len]; omega), take_succ' (z := ([] : List Pt)) hj]
  simp [allE, crS]
theorem insK_all {ps : List (List Pt)} {j : Nat} {x y : Int} (h : (ps.length : Int) ≤ (j : Int)) : insK ps j 0 x y = insN ps x y := by
  rw [insK, List.take_of_length_le (by omega)]; simp [crS, insN]
theorem insK_bd {ps : List (List Pt)} {j i : Nat} (x y : Int) (hj : (j : Int) < (ps.length : Int)) : -(total ps : Int) ≤ insK ps j i x y ∧ insK ps j i x y ≤ (total ps : Int) := by
  have h1 := crS_bd x y (allE (ps.take j)); have h2 := crS_bd x y ((edgesOf (ps.getD j [])).take i)
  rw [allE_len] at h1
  have h3 := tot_succ hj; have h4 := tot_le ps (j + 1)
  have h5 : ((edgesOf (ps.getD j [])).take i).length ≤ (ps.getD j []).length := by rw [← edges_len]; exact List.length_take_le' _ _
  unfold insK; omega
theorem ik1 {ps : List (List Pt)} {j i : Nat} {x y : Int} (h : checkE ps 0 = 0) (hj : (j : Int) < (ps.length : Int)) (hi : (i : Int) < ((ps.getD j []).length : Int)) :
    IntKind.i64.wrap (insK ps j i x y + crossI ⟨(ps.getD j []).getD i ⟨0, 0⟩, nxt (ps.getD j []) i⟩ x y) = insK ps j (i + 1) x y := by
  have h1 := (check0 h).1; have h2 := insK_bd (i := i) x y hj; have h3 := cross_1 ⟨(ps.getD j []).getD i ⟨0, 0⟩, nxt (ps.getD j []) i⟩ x y
  rw [insK_next hi, w64 (by omega) (by omega)]
theorem pq_in {ps : List (List Pt)} (h : checkE ps 0 = 0) {j i : Nat} (hj : (j : Int) < (ps.length : Int)) (hi : (i : Int) < ((ps.getD j []).length : Int)) : PtOk ((ps.getD j []).getD i ⟨0, 0⟩) ∧ PtOk (nxt (ps.getD j []) i) :=
  ⟨(check0 h).2 _ (getD_mem hj) _ (getD_mem hi), (check0 h).2 _ (getD_mem hj) _ (nxt_mem hi)⟩
theorem ib1 {ps : List (List Pt)} {rule x y : Int} {j : Nat} (h : (ps.length : Int) ≤ (j : Int)) (hc : rule = 1) : (!(insK ps j 0 x y).tmod 2 == 0) = insB rule (insN ps x y) := by
  rw [insK_all h, insB, if_pos hc]
theorem ib2 {ps : List (List Pt)} {rule x y : Int} {j : Nat} (h : (ps.length : Int) ≤ (j : Int)) (hc : ¬ rule = 1) : (!insK ps j 0 x y == 0) = insB rule (insN ps x y) := by
  rw [insK_all h, insB, if_neg hc]
/-! ### value -/
def inC (ps : List (List Pt)) (rule x y : Int) (j i : Nat) : Int := cntC ps rule x y j + rowC ps rule (16 * x) (16 * y + j) i
theorem b2i_01 (b : Bool) : 0 ≤ b2i b ∧ b2i b ≤ 1 := by cases b <;> simp [b2i]
theorem rowC_succ (ps : List (List Pt)) (rule x y : Int) (n : Nat) : rowC ps rule x y (n + 1) = rowC ps rule x y n + b2i (insB rule (insN ps (x + n) y)) := by simp [rowC, List.range_succ]
theorem cntC_succ (ps : List (List Pt)) (rule x y : Int) (n : Nat) : cntC ps rule x y (n + 1) = cntC ps rule x y n + rowC ps rule (16 * x) (16 * y + n) 16 := by simp [cntC, List.range_succ]
theorem rowC_bd (ps : List (List Pt)) (rule x y : Int) : ∀ (n : Nat), 0 ≤ rowC ps rule x y n ∧ rowC ps rule x y n ≤ n
  | 0 => by simp [rowC]
  | n + 1 => by
    have := rowC_bd ps rule x y n; have := b2i_01 (insB rule (insN ps (x + n) y))
    rw [rowC_succ]; omega
theorem cntC_bd (ps : List (List Pt)) (rule x y : Int) : ∀ (n : Nat), 0 ≤ cntC ps rule x y n ∧ cntC ps rule x y n ≤ 16 * n
  | 0 => by simp [cntC]
  | n + 1 => by
    have := cntC_bd ps rule x y n; have := rowC_bd ps rule (16 * x) (16 * y + n) 16
    rw [cntC_succ]; omega
theorem inC_bd (ps : List (List Pt)) (rule x y : Int) (j i : Nat) : 0 ≤ inC ps rule x y j i ∧ inC ps rule x y j i ≤ 16 * j + i := by
  have := cntC_bd ps rule x y j; have := rowC_bd ps rule (16 * x) (16 * y + j) i
  unfold inC; omega
theorem ic0 (ps : List (List Pt)) (rule x y : Int) : 0 = inC ps rule x y 0 0 := by simp [inC, cntC, rowC]
theorem ic1 {ps : List (List Pt)} {rule x y : Int} {j i : Nat} (hj : j ≤ 16) (hi : i ≤ 16) (hc : insB rule (insN ps (16 * x + i) (16 * y + j)) = true) : IntKind.i64.wrap (inC ps rule x y j i + 1) = inC ps rule x y j (i + 1) := by
  have := inC_bd ps rule x y j i
  rw [w64 (by omega) (by omega), inC, inC, rowC_succ, hc]; simp only [b2i, if_true]; omega
theorem ic2 {ps : List (List Pt)} {rule x y : Int} {j i : Nat} (hc : insB rule (insN ps (16 * x + i) (16 * y + j)) = false) : inC ps rule x y j i = inC ps rule x y j (i + 1) := by
  rw [inC, inC, rowC_succ, hc]; simp [b2i]
theorem ic3 {ps : List (List Pt)} {rule x y : Int} {j i : Nat} (hi : i ≤ 16) (hc : 16 ≤ (i : Int)) : inC ps rule x y j i = inC ps rule x y (j + 1) 0 := by
  have : i = 16 := by omega
  subst this
  rw [inC, inC, cntC_succ]; simp [rowC]
theorem ic4 {ps : List (List Pt)} {rule x y : Int} {j : Nat} (hj : j ≤ 16) (hc : 16 ≤ (j : Int)) : IntKind.i64.wrap (65535 * inC ps rule x y j 0) = 65535 * cntC ps rule x y 16 ∧ 0 ≤ 65535 * cntC ps rule x y 16 ∧ 65535 * cntC ps rule x y 16 ≤ 16776960 := by
  have : j = 16 := by omega
  subst this
  have h := cntC_bd ps rule x y 16
  have e : inC ps rule x y 16 0 = cntC ps rule x y 16 := by simp [inC, rowC]
  rw [e, w64 (by omega) (by omega)]; omega
/-! ### area and masks -/
def areaE (r : Rc) : Int := if validB r then (if 256 < r.w ∨ 256 < r.h then 15 else 0) else 2
theorem ae1 {r : Rc} (hc : validB r = false) : 2 = areaE r := by simp [areaE, hc]
theorem ae2 {r : Rc} (h : validB r = true) (hc : 256 < r.w ∨ 256 < r.h) : 15 = areaE r := by simp [areaE, h, hc]
theorem ae3 {r : Rc} (h : validB r = true) (hc : r.w ≤ 256 ∧ r.h ≤ 256) : 0 = areaE r := by
  rw [areaE, if_pos h, if_neg (by omega)]
structure Mk where
  w : Int
  h : Int
  v : List Int
  deriving DecidableEq, Inhabited
def mkC (m : Mk) : List D := [.i m.w, .i m.h, .sl 1 (m.v.map iC)]
def mkD (m : Mk) : D := .agg (mkC m)
def unMk : List D → Mk
  | [.i w, .i h, .sl _ l] => ⟨w, h, l.map unI⟩
  | _ => ⟨0, 0, []⟩
theorem unMkE (w h : Int) (v : List Int) : unMk [.i w, .i h, .sl 1 (v.map iC)] = ⟨w, h, v⟩ := by simp only [unMk, mapI]
theorem unMk0 (w h : Int) : unMk [.i w, .i h, .sl 1 []] = ⟨w, h, []⟩ := rfl
def sameM (a b : Mk) : Bool := decide (a = b)
theorem sm_1 {a b : Mk} (hc : (¬ a.w = b.w ∨ ¬ a.h = b.h) ∨ ¬ (a.v.length : Int) = (b.v.length : Int)) : false = sameM a b := by
  symm; simp only [sameM, decide_eq_false_iff_not]; rintro rfl; simp at hc
theorem sm_2 {a b : Mk} {k : Nat} (hc : ¬ a.v.getD k 0 = b.v.getD k 0) : false = sameM a b := by
  symm; simp only [sameM, decide_eq_false_iff_not]; rintro rfl; simp at hc
theorem sm_3 {a b : Mk} {k : Nat} (h : (a.w = b.w ∧ a.h = b.h) ∧ (a.v.length : Int) = (b.v.length : Int)) (hI : ∀ j, j < k → a.v.getD j 0 = b.v.getD j 0) (hc : (a.v.length : Int) ≤ (k : Int)) : true = sameM a b := by
  symm; simp only [sameM, decide_eq_true_eq]
  have e : a.v = b.v := by
    apply List.ext_getElem?
    intro i
    by_cases hi : i < a.v.length
    · have := hI i (by omega)
      simp only [List.getD_eq_getElem?_getD] at this
      rw [List.getElem?_eq_getElem hi, List.getElem?_eq_getElem (by omega : i < b.v.length)] at this ⊢
      simpa using this
    · rw [List.getElem?_eq_none (by omega), List.getElem?_eq_none (by omega)]
  cases a; cases b; simp only [Mk.mk.injEq] at *; exact ⟨h.1.1, h.1.2, e⟩
theorem sm_4 {a b : Mk} {k : Nat} (hI : ∀ j, j < k → a.v.getD j 0 = b.v.getD j 0) (hc : a.v.getD k 0 = b.v.getD k 0) : ∀ j, j < k + 1 → a.v.getD j 0 = b.v.getD j 0 := by
  intro j hj
  by_cases h : j = k
  · subst h; exact hc
  · exact hI j (by omega)
end Go.Rect

set_option linter.unusedSimpArgs false
set_option linter.unusedVariables false
namespace Go.Rect
open Go.Eng
/-! ### Mask -/
def mskV (ps : List (List Pt)) (rule : Int) (r : Rc) (k : Nat) : Int := valI ps rule (r.x + ((k % r.w.toNat : Nat) : Int)) (r.y + ((k / r.w.toNat : Nat) : Int))
def VL (ps : List (List Pt)) (rule : Int) (r : Rc) (n : Nat) : List Int := (List.range n).map (mskV ps rule r)
def maskE (ps : List (List Pt)) (rule : Int) (r : Rc) : Int := if checkE ps rule ≠ 0 then checkE ps rule else areaE r
def maskR (ps : List (List Pt)) (rule : Int) (r : Rc) : Mk := if maskE ps rule r = 0 ∧ emptyB r = false then ⟨r.w, r.h, VL ps rule r (r.w.toNat * r.h.toNat)⟩ else ⟨0, 0, []⟩
theorem VL_len (ps : List (List Pt)) (rule : Int) (r : Rc) (n : Nat) : (VL ps rule r n).length = n := by simp [VL]
theorem VL_succ (ps : List (List Pt)) (rule : Int) (r : Rc) (n : Nat) : VL ps rule r (n + 1) = VL ps rule r n ++ [mskV ps rule r n] := by simp [VL, List.range_succ]
theorem msk_at {ps : List (List Pt)} {rule : Int} {r : Rc} {y x : Nat} (h : x < r.w.toNat) : mskV ps rule r (y * r.w.toNat + x) = valI ps rule (r.x + (x : Int)) (r.y + (y : Int)) := by
  have h0 : 0 < r.w.toNat := by omega
  rw [mskV, Nat.mul_comm y, Nat.mul_add_mod, Nat.mod_eq_of_lt h, Nat.mul_add_div h0, Nat.div_eq_of_lt h, Nat.add_zero]
theorem mkE1 {ps : List (List Pt)} {rule : Int} {r : Rc} (hc : ¬ checkE ps rule = 0) : maskR ps rule r = ⟨0, 0, []⟩ ∧ maskE ps rule r = checkE ps rule := by
  have e : maskE ps rule r = checkE ps rule := by rw [maskE, if_pos hc]
  exact ⟨by rw [maskR, if_neg (by rw [e]; exact fun h => hc h.1)], e⟩
theorem mkE2 {ps : List (List Pt)} {rule : Int} {r : Rc} (h : checkE ps rule = 0) (hc : ¬ areaE r = 0) : maskR ps rule r = ⟨0, 0, []⟩ ∧ maskE ps rule r = areaE r := by
  have e : maskE ps rule r = areaE r := by rw [maskE, if_neg (by simp [h])]
  exact ⟨by rw [maskR, if_neg (by rw [e]; exact fun h => hc h.1)], e⟩
theorem mkE3 {ps : List (List Pt)} {rule : Int} {r : Rc} (h : checkE ps rule = 0) (ha : areaE r = 0) (hc : emptyB r = true) : maskR ps rule r = ⟨0, 0, []⟩ ∧ maskE ps rule r = 0 := by
  have e : maskE ps rule r = 0 := by rw [maskE, if_neg (by simp [h]), ha]
  exact ⟨by rw [maskR, if_neg (by simp [hc])], e⟩
theorem mkE4 {ps : List (List Pt)} {rule : Int} {r : Rc} (h : checkE ps rule = 0) (ha : areaE r = 0) (hc : emptyB r = false) : maskR ps rule r = ⟨r.w, r.h, VL ps rule r (r.w.toNat * r.h.toNat)⟩ ∧ maskE ps rule r = 0 := by
  have e : maskE ps rule r = 0 := by rw [maskE, if_neg (by simp [h]), ha]
  exact ⟨by rw [maskR, if_pos ⟨e, hc⟩], e⟩
theorem area0 {r : Rc} (h : validB r = true) (hw : r.w ≤ 256 ∧ r.h ≤ 256) : areaE r = 0 := by rw [areaE, if_pos h, if_neg (by omega)]
theorem area_sz {r : Rc} (ha : areaE r = 0) (he : emptyB r = false) : 1 ≤ r.w ∧ r.w ≤ 256 ∧ 1 ≤ r.h ∧ r.h ≤ 256 ∧ -1048576 ≤ r.x ∧ r.x + r.w ≤ 1048576 ∧ -1048576 ≤ r.y ∧ r.y + r.h ≤ 1048576 := by
  have h1 := empty_spec.1 he
  unfold areaE at ha
  split at ha
  · split at ha
    · omega
    · omega
  · omega
theorem bk (m : Mk) {w h : Int} {v : List Int} {e e' : Int} (hm : m = ⟨w, h, v⟩ ∧ e' = e) : (w = m.w ∧ h = m.h ∧ v.map iC = m.v.map iC) ∧ e = e' := by obtain ⟨rfl, rfl⟩ := hm; exact ⟨⟨rfl, rfl, rfl⟩, rfl⟩
theorem bk0 (m : Mk) {e e' : Int} (hm : m = ⟨0, 0, []⟩ ∧ e' = e) : (0 = m.w ∧ 0 = m.h ∧ m.v.map iC = []) ∧ e = e' := by obtain ⟨rfl, rfl⟩ := hm; exact ⟨⟨rfl, rfl, rfl⟩, rfl⟩
theorem areaV {r : Rc} (h : validB r = false) : areaE r = 2 := (ae1 h).symm
theorem areaW {r : Rc} (h : validB r = true) (hc : 256 < r.w ∨ 256 < r.h) : areaE r = 15 := (ae2 h hc).symm
theorem rm1 {ps : List (List Pt)} {rule : Int} {r : Rc} (h : checkE ps rule = 0) (hc : validB r = false) : maskR ps rule r = ⟨0, 0, []⟩ ∧ maskE ps rule r = 2 := by
  have := mkE2 h (r := r) (by rw [areaV hc]; omega); rw [areaV hc] at this; exact this
theorem rm2 {ps : List (List Pt)} {rule : Int} {r : Rc} (h : checkE ps rule = 0) (hv : validB r = true) (hc : 256 < r.w ∨ 256 < r.h) : maskR ps rule r = ⟨0, 0, []⟩ ∧ maskE ps rule r = 15 := by
  have := mkE2 h (r := r) (by rw [areaW hv hc]; omega); rw [areaW hv hc] at this; exact this
theorem rm4 {ps : List (List Pt)} {rule : Int} {r : Rc} {y : Nat} (h : checkE ps rule = 0) (ha : areaE r = 0) (he : emptyB r = false) (hY : y ≤ r.h.toNat) (hc : r.h ≤ (y : Int)) : maskR ps rule r = ⟨r.w, r.h, VL ps rule r (y * r.w.toNat)⟩ ∧ maskE ps rule r = 0 := by
  have := mkE4 h ha he
  have e : y = r.h.toNat := by omega
  rw [e, Nat.mul_comm]; exact this
theorem yx_bd {r : Rc} {y x : Nat} (ha : areaE r = 0) (he : emptyB r = false) (hy : (y : Int) < r.h) (hx : (x : Int) < r.w) : y * r.w.toNat + x + 1 ≤ 65536 := by
  have hs := area_sz ha he
  have h1 : y * r.w.toNat ≤ 255 * r.w.toNat := Nat.mul_le_mul_right _ (by omega)
  omega
theorem yx_b2 {r : Rc} {y x : Nat} (ha : areaE r = 0) (he : emptyB r = false) (hy : (y : Int) < r.h) (hx : (x : Int) < r.w) : (y * r.w.toNat + x + 1) * 8 ≤ 140737488355328 := by have := yx_bd ha he hy hx; omega
theorem row_end {r : Rc} {y x : Nat} (hX : x ≤ r.w.toNat) (hc : r.w ≤ (x : Int)) : y * r.w.toNat + x = (y + 1) * r.w.toNat := by
  have : x = r.w.toNat := by omega
  rw [this, Nat.add_mul]; omega
theorem v_next {ps : List (List Pt)} {rule : Int} {r : Rc} {y x : Nat} (hx : (x : Int) < r.w) : (VL ps rule r (y * r.w.toNat + x)).map iC ++ [[.i (valI ps rule (r.x + (x : Int)) (r.y + (y : Int)))]] = (VL ps rule r (y * r.w.toNat + (x + 1))).map iC := by
  rw [← Nat.add_assoc, VL_succ, msk_at (by omega)]; simp [iC]
end Go.Rect

set_option linter.unusedSimpArgs false
set_option linter.unusedVariables false
namespace Go.Rect
open Go.Eng
/-! ### Lists as tables -/
def tab (n : Nat) (f : Nat → Int) : List Int := (List.range n).map f
theorem tab_len (n : Nat) (f : Nat → Int) : (tab n f).length = n := by simp [tab]
theorem tab_getD {n k : Nat} {f : Nat → Int} (h : k < n) : (tab n f).getD k 0 = f k := by
  simp [tab, List.getD_eq_getElem?_getD, List.getElem?_range h]
theorem tab_ext {n : Nat} {f g : Nat → Int} (h : ∀ k, k < n → f k = g k) : tab n f = tab n g := by
  apply List.map_congr_left; intro k hk; exact h k (by simpa using hk)
theorem tab_of (l : List Int) : l = tab l.length (fun k => l.getD k 0) := by
  apply List.ext_getElem?
  intro i
  by_cases h : i < l.length
  · simp [tab, List.getElem?_range h, h]
  · rw [List.getElem?_eq_none (by omega), List.getElem?_eq_none (by rw [tab_len]; omega)]
theorem tab_set {n k : Nat} {f : Nat → Int} {v : Int} : (tab n f).set k v = tab n (fun j => if j = k then v else f j) := by
  apply List.ext_getElem?
  intro i
  by_cases h : i < n
  · rw [List.getElem?_set]
    by_cases hk : k = i
    · subst hk; simp [tab, List.getElem?_range h, h]
    · have : ¬ i = k := fun e => hk e.symm
      simp [tab, List.getElem?_range h, hk, this]
  · rw [List.getElem?_eq_none (by simp [tab_len]; omega), List.getElem?_eq_none (by rw [tab_len]; omega)]
/-! ### before -/
def EdOk (s : Ed) : Prop := PtOk s.a ∧ PtOk s.b
theorem befN_bd {s : Ed} {y : Int} (hs : EdOk s) (hy : XOk y) : -9007199590285314 ≤ befN s y ∧ befN s y ≤ 9007199590285314 := by
  obtain ⟨⟨a1, a2, a3, a4⟩, b1, b2, b3, b4⟩ := hs
  obtain ⟨y1, y2⟩ := hy
  have m1 := mulG (u := 2 * (s.b.y - s.a.y)) (v := s.a.x) (by omega) (by omega) (by omega) (by omega)
  have m2 := mulG (u := 2 * y + 1 - 2 * s.a.y) (v := s.b.x - s.a.x) (by omega) (by omega) (by omega) (by omega)
  unfold befN; omega
theorem ediv_bd {n h B : Int} (hB : 0 ≤ B) (h1 : -B ≤ n) (h2 : n ≤ B) (hh : 0 < h) : -B ≤ n / h ∧ n / h ≤ B := by
  constructor
  · rw [Int.le_ediv_iff_mul_le hh]
    have : -B * h ≤ -B * 1 := Int.mul_le_mul_of_nonpos_left (by omega) (by omega)
    omega
  · rcases Int.le_total 0 n with ha | ha
    · have := Int.ediv_le_self h ha; omega
    · have : n / h ≤ 0 := Int.ediv_nonpos_of_nonpos_of_neg ha (by omega)
      omega
theorem flr_bd {n h B : Int} (hB : 0 ≤ B) (hB2 : B ≤ 4611686018427387904) (h1 : -B ≤ n) (h2 : n ≤ B) : -B ≤ floorI n h ∧ floorI n h ≤ B := by
  rcases Int.lt_trichotomy h 0 with hh | hh | hh
  · rw [floor_neg hh (by left; omega)]; exact ediv_bd hB (by omega) (by omega) (by omega)
  · rw [floorI, if_pos hh]; omega
  · rw [floor_pos hh]; exact ediv_bd hB h1 h2 hh
theorem befI_bd {s : Ed} {y : Int} (hs : EdOk s) (hy : XOk y) : -9007199590285314 ≤ befI s y ∧ befI s y ≤ 9007199590285314 := by
  have h := befN_bd hs hy
  have := flr_bd (n := -befN s y) (h := 2 * (s.b.y - s.a.y)) (B := 9007199590285314) (by omega) (by omega) (by omega) (by omega)
  unfold befI; omega
/-! ### edges -/
def EK (ps : List (List Pt)) (y0 y1 : Int) (j i : Nat) : List Ed := (allE (ps.take j) ++ (edgesOf (ps.getD j [])).take i).filter (keepE y0 y1)
theorem EK_0 (ps : List (List Pt)) (y0 y1 : Int) : EK ps y0 y1 0 0 = [] := by simp [EK, allE]
theorem EK_next {ps : List (List Pt)} {y0 y1 : Int} {j i : Nat} (h : (i : Int) < ((ps.getD j []).length : Int)) : EK ps y0 y1 j (i + 1) = EK ps y0 y1 j i ++ (if keepE y0 y1 ⟨(ps.getD j []).getD i ⟨0, 0⟩, nxt (ps.getD j []) i⟩ then [⟨(ps.getD j []).getD i ⟨0, 0⟩, nxt (ps.getD j []) i⟩] else []) := by
  rw [EK, take_succ' (z := zE) (by rw [edges_len]; exact h), edges_get h, ← List.append_assoc, List.filter_append, EK]
  congr 1
  generalize (⟨(ps.getD j []).getD i ⟨0, 0⟩, nxt (ps.getD j []) i⟩ : Ed) = s
  cases hk : keepE y0 y1 s <;> simp [hk]
theorem EK_over {ps : List (List Pt)} {y0 y1 : Int} {j i : Nat} (hj : (j : Int) < (ps.length : Int)) (h : ((ps.getD j []).length : Int) ≤ (i : Int)) : EK ps y0 y1 (j + 1) 0 = EK ps y0 y1 j i := by
  rw [EK, EK, List.take_of_length_le (show (edgesOf (ps.getD j [])).length ≤ i by rw [edges_len]; omega), take_succ' (z := ([] : List Pt)) hj]
  simp [allE]
theorem EK_all {ps : List (List Pt)} {y0 y1 : Int} {j : Nat} (h : (ps.length : Int) ≤ (j : Int)) : EK ps y0 y1 j 0 = edgesL ps y0 y1 := by
  rw [EK, List.take_of_length_le (by omega)]; simp [edgesL]
theorem EK_len {ps : List (List Pt)} {y0 y1 : Int} {j i : Nat} (hj : (j : Int) < (ps.length : Int)) : (EK ps y0 y1 j i).length ≤ total ps := by
  have h0 : (EK ps y0 y1 j i).length ≤ (allE (ps.take j) ++ (edgesOf (ps.getD j [])).take i).length := List.length_filter_le _ _
  rw [List.length_append, allE_len] at h0
  have h3 := tot_succ hj; have h4 := tot_le ps (j + 1)
  have h5 : ((edgesOf (ps.getD j [])).take i).length ≤ (ps.getD j []).length := by rw [← edges_len]; exact List.length_take_le' _ _
  omega
theorem ek_b {ps : List (List Pt)} {y0 y1 : Int} {j i : Nat} (h : checkE ps 0 = 0) (hj : (j : Int) < (ps.length : Int)) : ((EK ps y0 y1 j i).length + 1) * 32 ≤ 140737488355328 := by
  have := EK_len (y0 := y0) (y1 := y1) (i := i) hj; have := (check0 h).1; omega
theorem ek1 {ps : List (List Pt)} {y0 y1 : Int} {j i : Nat} (h : (i : Int) < ((ps.getD j []).length : Int))
    (hc : (¬ ((ps.getD j []).getD i ⟨0, 0⟩).y = (nxt (ps.getD j []) i).y ∧ min ((ps.getD j []).getD i ⟨0, 0⟩).y (nxt (ps.getD j []) i).y < y1) ∧ y0 < max ((ps.getD j []).getD i ⟨0, 0⟩).y (nxt (ps.getD j []) i).y) :
    EK ps y0 y1 j (i + 1) = EK ps y0 y1 j i ++ [⟨(ps.getD j []).getD i ⟨0, 0⟩, nxt (ps.getD j []) i⟩] := by
  rw [EK_next h, if_pos (by simp only [keepE, Bool.and_eq_true, Bool.not_eq_true', beq_eq_false_iff_ne, ne_eq, decide_eq_true_eq]; exact hc)]
theorem ek2 {ps : List (List Pt)} {y0 y1 : Int} {j i : Nat} (h : (i : Int) < ((ps.getD j []).length : Int))
    (hc : keepE y0 y1 ⟨(ps.getD j []).getD i ⟨0, 0⟩, nxt (ps.getD j []) i⟩ = false) : EK ps y0 y1 j (i + 1) = EK ps y0 y1 j i := by
  rw [EK_next h, if_neg (by rw [hc]; exact Bool.false_ne_true), List.append_nil]
theorem edges_ok {ps : List (List Pt)} {y0 y1 : Int} (h : checkE ps 0 = 0) {s : Ed} (hs : s ∈ edgesL ps y0 y1) : EdOk s := by
  have h1 := (List.mem_filter.1 hs).1
  obtain ⟨p, hp, hs⟩ := List.mem_flatMap.1 h1
  obtain ⟨i, hi, rfl⟩ := List.mem_map.1 hs
  have hi' : (i : Int) < (p.length : Int) := by simp at hi; omega
  exact ⟨(check0 h).2 p hp _ (getD_mem hi'), (check0 h).2 p hp _ (nxt_mem hi')⟩
theorem edgesL_len (ps : List (List Pt)) (y0 y1 : Int) : (edgesL ps y0 y1).length ≤ total ps := by
  rw [← allE_len]; exact List.length_filter_le _ _
/-! ### wind -/
theorem sgn_1 (s : Ed) : -1 ≤ sgn s ∧ sgn s ≤ 1 := by unfold sgn; split <;> omega
theorem getD_set_bd {ts : List Int} {p i : Nat} {v B : Int} (hB : 0 ≤ B) (h : ∀ j, -B ≤ ts.getD j 0 ∧ ts.getD j 0 ≤ B) (hv : -B ≤ v ∧ v ≤ B) : -B ≤ (ts.set p v).getD i 0 ∧ (ts.set p v).getD i 0 ≤ B := by
  simp only [List.getD_eq_getElem?_getD, List.getElem?_set]
  by_cases hp : p = i
  · subst hp
    by_cases hl : p < ts.length
    · simp [hl]; exact hv
    · simp [hl]; omega
  · have := h i
    simp only [List.getD_eq_getElem?_getD] at this
    simp [hp]; exact this
theorem wstep_bd {ts : List Int} {s : Ed} {y x0 B : Int} (hB : 0 ≤ B) (h : ∀ j, -B ≤ ts.getD j 0 ∧ ts.getD j 0 ≤ B) : ∀ j, -(B + 2) ≤ (wstep y x0 ts s).getD j 0 ∧ (wstep y x0 ts s).getD j 0 ≤ B + 2 := by
  intro j
  unfold wstep
  split
  · have hs := sgn_1 s
    have h0 := h 0
    have h1 : ∀ j, -(B + 1) ≤ (ts.set 0 (ts.getD 0 0 + sgn s)).getD j 0 ∧ (ts.set 0 (ts.getD 0 0 + sgn s)).getD j 0 ≤ B + 1 := fun j => getD_set_bd (by omega) (fun j => by have := h j; omega) (by omega)
    have h2 := h1 (posI s y x0 ts.length)
    exact getD_set_bd (by omega) (fun j => by have := h1 j; omega) (by omega)
  · have := h j; omega
theorem windK_bd (l : List Ed) (y x0 : Int) (n : Nat) : ∀ (k : Nat), k ≤ l.length → ∀ j, -(2 * (k : Int)) ≤ (windK l y x0 n k).getD j 0 ∧ (windK l y x0 n k).getD j 0 ≤ 2 * (k : Int)
  | 0, _, j => by
    simp only [windK, List.take_zero, List.foldl_nil, List.getD_eq_getElem?_getD, List.getElem?_replicate]
    split <;> simp
  | k + 1, h, j => by
    have ih := windK_bd l y x0 n k (by omega)
    have := wstep_bd (s := l.getD k zE) (y := y) (x0 := x0) (by omega) ih j
    rw [windK_succ (by omega)]; omega
theorem wk_off {l : List Ed} {y x0 : Int} {n k : Nat} (h : (k : Int) < (l.length : Int)) (hc : y < min (l.getD k zE).a.y (l.getD k zE).b.y ∨ max (l.getD k zE).a.y (l.getD k zE).b.y ≤ y) : windK l y x0 n (k + 1) = windK l y x0 n k ∧ windB (l.take (k + 1)) y = windB (l.take k) y := by
  have e : onRow (l.getD k zE) y = false := by simp only [onRow, Bool.not_eq_false', Bool.or_eq_true, decide_eq_true_eq]; exact hc
  refine ⟨by rw [windK_succ h, wstep, e]; rfl, ?_⟩
  rw [take_succ' (z := zE) h, windB, List.any_append, windB]; simp only [List.any_cons, List.any_nil, e, Bool.or_false]
theorem wk_on {l : List Ed} {y x0 : Int} {n k : Nat} (h : (k : Int) < (l.length : Int)) (hc : min (l.getD k zE).a.y (l.getD k zE).b.y ≤ y ∧ y < max (l.getD k zE).a.y (l.getD k zE).b.y) : onRow (l.getD k zE) y = true ∧ windB (l.take (k + 1)) y = true := by
  have e : onRow (l.getD k zE) y = true := by simp only [onRow, Bool.not_eq_true', Bool.or_eq_false_iff, decide_eq_false_iff_not]; omega
  refine ⟨e, ?_⟩
  rw [take_succ' (z := zE) h, windB, List.any_append]; simp only [List.any_cons, List.any_nil, e, Bool.or_false, Bool.or_true]
theorem wk1 {l : List Ed} {y x0 : Int} {n k : Nat} (hk : k ≤ l.length) (hl : l.length ≤ 281474976710656) : IntKind.i64.wrap ((windK l y x0 n k).getD 0 0 + sgn (l.getD k zE)) = (windK l y x0 n k).getD 0 0 + sgn (l.getD k zE) := by
  have := windK_bd l y x0 n k hk 0; have := sgn_1 (l.getD k zE)
  exact w64 (by omega) (by omega)
theorem wk2 {l : List Ed} {y x0 : Int} {n k : Nat} (hk : k ≤ l.length) (hl : l.length ≤ 281474976710656) (p : Nat) : IntKind.i64.wrap (((windK l y x0 n k).set 0 ((windK l y x0 n k).getD 0 0 + sgn (l.getD k zE))).getD p 0 - sgn (l.getD k zE)) = ((windK l y x0 n k).set 0 ((windK l y x0 n k).getD 0 0 + sgn (l.getD k zE))).getD p 0 - sgn (l.getD k zE) := by
  have h1 := sgn_1 (l.getD k zE)
  have h0 := windK_bd l y x0 n k hk 0
  have := getD_set_bd (ts := windK l y x0 n k) (p := 0) (i := p) (v := (windK l y x0 n k).getD 0 0 + sgn (l.getD k zE)) (B := 2 * (k : Int) + 1) (by omega) (fun j => by have := windK_bd l y x0 n k hk j; omega) (by omega)
  exact w64 (by omega) (by omega)
theorem wk3 {l : List Ed} {y x0 : Int} {n k : Nat} (h : (k : Int) < (l.length : Int)) (hc : onRow (l.getD k zE) y = true) :
    ((windK l y x0 n k).set 0 ((windK l y x0 n k).getD 0 0 + sgn (l.getD k zE))).set (posI (l.getD k zE) y x0 n) (((windK l y x0 n k).set 0 ((windK l y x0 n k).getD 0 0 + sgn (l.getD k zE))).getD (posI (l.getD k zE) y x0 n) 0 - sgn (l.getD k zE)) = windK l y x0 n (k + 1) := by
  rw [windK_succ h, wstep, if_pos hc, windK_len]
theorem mem_ok {l : List Ed} (hl : ∀ s ∈ l, EdOk s) {k : Nat} (h : (k : Int) < (l.length : Int)) : EdOk (l.getD k zE) := hl _ (getD_mem h)
theorem posE {s : Ed} {y x0 : Int} {n : Nat} : (min (max (befI s y - x0) 0) ((n : Int) - 1)).toNat = posI s y x0 n := rfl
theorem clr0 (ts : List Int) : (List.replicate ts.length (0 : Int)).map iC ++ (ts.map iC).drop ts.length = (List.replicate ts.length (0 : Int)).map iC := by
  rw [List.drop_of_length_le (by simp), List.append_nil]
theorem wk0 (l : List Ed) (y x0 : Int) (n : Nat) : (List.replicate n (0 : Int)).map iC = (windK l y x0 n 0).map iC := by simp [windK]
theorem sgn_a {s : Ed} (h : s.b.y < s.a.y) : -1 = sgn s := by simp [sgn, h]
theorem sgn_b {s : Ed} (h : s.a.y ≤ s.b.y) : 1 = sgn s := by rw [sgn, if_neg (by omega)]
theorem windB_all {l : List Ed} {y : Int} {k : Nat} (h : (l.length : Int) ≤ (k : Int)) : windB (l.take k) y = windB l y := by rw [List.take_of_length_le (by omega)]
end Go.Rect

set_option linter.unusedSimpArgs false
set_option linter.unusedVariables false
namespace Go.Rect
open Go.Eng
/-! ### count -/
def pcnt (ts : List Int) (rule : Int) (q i : Nat) : Int := ((List.range i).map fun t => b2i (insB rule (psum ts (16 * q + t + 1)))).sum
def cntF (ts : List Int) (rule : Int) (o x i k : Nat) : Int := if k < o then 0 else if k < o + x then pcnt ts rule (k - o) 16 else if k = o + x then pcnt ts rule x i else 0
def cntK (ts : List Int) (rule : Int) (L : List Int) (o x i : Nat) : List Int := tab L.length fun k => L.getD k 0 + cntF ts rule o x i k
def cntL (ts : List Int) (rule : Int) (L : List Int) (o m : Nat) : List Int := cntK ts rule L o m 0
theorem cntK_len (ts : List Int) (rule : Int) (L : List Int) (o x i : Nat) : (cntK ts rule L o x i).length = L.length := tab_len _ _
theorem pcnt_succ (ts : List Int) (rule : Int) (q i : Nat) : pcnt ts rule q (i + 1) = pcnt ts rule q i + b2i (insB rule (psum ts (16 * q + i + 1))) := by simp [pcnt, List.range_succ]
theorem pcnt_bd (ts : List Int) (rule : Int) (q : Nat) : ∀ (i : Nat), 0 ≤ pcnt ts rule q i ∧ pcnt ts rule q i ≤ i
  | 0 => by simp [pcnt]
  | i + 1 => by
    have := pcnt_bd ts rule q i; have := b2i_01 (insB rule (psum ts (16 * q + i + 1)))
    rw [pcnt_succ]; omega
theorem cntK_0 (ts : List Int) (rule : Int) (L : List Int) (o : Nat) : L = cntK ts rule L o 0 0 := by
  conv => lhs; rw [tab_of L]
  apply tab_ext; intro k hk
  simp only [cntF]
  split
  · omega
  · split
    · omega
    · split
      · simp [pcnt]
      · omega
theorem psum_succ {ts : List Int} {c : Nat} (h : c < ts.length) : psum ts (c + 1) = psum ts c + ts.getD c 0 := by
  rw [psum, take_succ' (z := (0 : Int)) (by omega), List.sum_append, psum]; simp
theorem cn1 {ts : List Int} {rule : Int} {L : List Int} {o x i : Nat} (h : o + x < L.length) (hc : insB rule (psum ts (16 * x + i + 1)) = true) (hL : ∀ k, 0 ≤ L.getD k 0 ∧ L.getD k 0 ≤ 1099511627776) (hi : i ≤ 16) :
    (cntK ts rule L o x i).set (o + x) (IntKind.i64.wrap ((cntK ts rule L o x i).getD (o + x) 0 + 1)) = cntK ts rule L o x (i + 1) := by
  have hp := pcnt_bd ts rule x i
  have hl := hL (o + x)
  have e : (cntK ts rule L o x i).getD (o + x) 0 = L.getD (o + x) 0 + pcnt ts rule x i := by
    rw [cntK, tab_getD h, cntF, if_neg (by omega), if_neg (by omega), if_pos rfl]
  rw [e, w64 (by omega) (by omega), cntK, tab_set]
  apply tab_ext; intro k hk
  by_cases hkk : k = o + x
  · subst hkk
    rw [if_pos rfl, cntF, if_neg (by omega), if_neg (by omega), if_pos rfl, pcnt_succ, hc]; simp only [b2i, if_true]; omega
  · rw [if_neg hkk, cntF, cntF, if_neg hkk, if_neg hkk]
theorem cn2 {ts : List Int} {rule : Int} {L : List Int} {o x i : Nat} (hc : insB rule (psum ts (16 * x + i + 1)) = false) : cntK ts rule L o x i = cntK ts rule L o x (i + 1) := by
  apply tab_ext; intro k hk
  have e : pcnt ts rule x (i + 1) = pcnt ts rule x i := by rw [pcnt_succ, hc]; simp [b2i]
  rw [cntF, cntF, e]
theorem cn3 {ts : List Int} {rule : Int} {L : List Int} {o x i : Nat} (hi : i ≤ 16) (hc : 16 ≤ (i : Int)) : cntK ts rule L o x i = cntK ts rule L o (x + 1) 0 := by
  have : i = 16 := by omega
  subst this
  apply tab_ext; intro k hk
  simp only [cntF]
  by_cases h1 : k < o
  · rw [if_pos h1, if_pos h1]
  · rw [if_neg h1, if_neg h1]
    by_cases h2 : k < o + x
    · rw [if_pos h2, if_pos (by omega)]
    · rw [if_neg h2]
      by_cases h3 : k = o + x
      · rw [if_pos h3, if_pos (by omega), h3, Nat.add_sub_cancel_left]
      · rw [if_neg h3, if_neg (by omega)]
        split
        · simp [pcnt]
        · rfl
theorem cn4 {x i : Nat} (hx : (x : Int) < 65536) (hi : (i : Int) < 16) : IntKind.i64.wrap (IntKind.i64.wrap (16 * (x : Int)) + (i : Int)) = ((16 * x + i : Nat) : Int) := by
  rw [w64 (n := 16 * (x : Int)) (by omega) (by omega), w64 (by omega) (by omega)]; omega
theorem cn5 {ts : List Int} {m x i : Nat} (ht : ts.length = 16 * m + 1) (hx : x < m) (hi : (i : Int) < 16) (hP : ∀ c, c ≤ 16 * m → -281474976710656 ≤ psum ts c ∧ psum ts c ≤ 281474976710656) :
    IntKind.i64.wrap (psum ts (16 * x + i) + ts.getD (16 * x + i) 0) = psum ts (16 * x + i + 1) := by
  have h := hP (16 * x + i + 1) (by omega)
  rw [psum_succ (by omega)] at h ⊢
  exact w64 (by omega) (by omega)
theorem cn6 {rule n : Int} (hr : rule = 0 ∨ rule = 1) (hc : rule = 0 ∧ ¬ n = 0 ∨ rule = 1 ∧ ¬ n.tmod 2 = 0) : insB rule n = true := by
  rcases hc with ⟨rfl, h⟩ | ⟨rfl, h⟩
  · simp [insB, h]
  · simp [insB, h]
theorem cn7 {rule n : Int} (hr : rule = 0 ∨ rule = 1) (hc : (rule == 0 && !n == 0) = false ∧ (rule == 1 && !n.tmod 2 == 0) = false) : insB rule n = false := by
  rcases hr with rfl | rfl
  · simpa [insB] using hc.1
  · simpa [insB] using hc.2
theorem ps_end {ts : List Int} {x i : Nat} (hi : i ≤ 16) (hc : 16 ≤ (i : Int)) : psum ts (16 * x + i) = psum ts (16 * (x + 1)) := by
  have : i = 16 := by omega
  subst this; rfl
/-! ### The rows of Mask -/
def stF (ps : List (List Pt)) (rule : Int) (r : Rc) (y j k : Nat) : Int :=
  if k < y * r.w.toNat then mskV ps rule r k else if k < (y + 1) * r.w.toNat then cntC ps rule (r.x + ((k - y * r.w.toNat : Nat) : Int)) (r.y + y) j else 0
def stG (ps : List (List Pt)) (rule : Int) (r : Rc) (y x k : Nat) : Int :=
  if k < y * r.w.toNat + x then mskV ps rule r k else if k < (y + 1) * r.w.toNat then cntC ps rule (r.x + ((k - y * r.w.toNat : Nat) : Int)) (r.y + y) 16 else 0
def NN' (r : Rc) : Nat := r.w.toNat * r.h.toNat
def SF (ps : List (List Pt)) (rule : Int) (r : Rc) (y j : Nat) : List Int := tab (NN' r) (stF ps rule r y j)
def SG (ps : List (List Pt)) (rule : Int) (r : Rc) (y x : Nat) : List Int := tab (NN' r) (stG ps rule r y x)
theorem SF_len (ps : List (List Pt)) (rule : Int) (r : Rc) (y j : Nat) : (SF ps rule r y j).length = NN' r := tab_len _ _
theorem SG_len (ps : List (List Pt)) (rule : Int) (r : Rc) (y x : Nat) : (SG ps rule r y x).length = NN' r := tab_len _ _
theorem ms0 (ps : List (List Pt)) (rule : Int) (r : Rc) : List.replicate (NN' r) 0 = SF ps rule r 0 0 := by
  have e : List.replicate (NN' r) (0 : Int) = tab (NN' r) fun _ => 0 := by
    apply List.ext_getElem?; intro i
    by_cases h : i < NN' r
    · simp [tab, List.getElem?_range h, h]
    · rw [List.getElem?_eq_none (by simp; omega), List.getElem?_eq_none (by rw [tab_len]; omega)]
  rw [e]; apply tab_ext; intro k hk
  simp only [stF, Nat.zero_mul, Nat.not_lt_zero, if_false, cntC, List.range_zero, List.map_nil, List.sum_nil, ite_self]
theorem psW {ps : List (List Pt)} {r : Rc} {y : Nat} {j c : Nat} {Y : Int} (hY : Y = 16 * (r.y + y)) (hj : j < 16) (hc : c < 16 * r.w.toNat) :
    psum (windL (edgesL ps Y (Y + 16)) (Y + j) (16 * r.x) (16 * r.w.toNat + 1)) (c + 1) = insN ps (16 * r.x + c) (Y + j) := by
  rw [windL_sum (by omega)]; exact edges_sum ps (by omega) (by omega)
theorem pcW {ps : List (List Pt)} {rule : Int} {r : Rc} {y j q : Nat} {Y : Int} (hY : Y = 16 * (r.y + y)) (hj : j < 16) (hq : q < r.w.toNat) :
    pcnt (windL (edgesL ps Y (Y + 16)) (Y + j) (16 * r.x) (16 * r.w.toNat + 1)) rule q 16 = rowC ps rule (16 * (r.x + q)) (16 * (r.y + y) + j) 16 := by
  unfold pcnt rowC
  congr 1; apply List.map_congr_left; intro t ht
  simp only [List.mem_range] at ht
  have e : (16 * r.x + ((16 * q + t : Nat) : Int)) = 16 * (r.x + q) + t := by omega
  rw [psW hY hj (by omega), hY, e]
theorem ms1 {ps : List (List Pt)} {rule : Int} {r : Rc} {y j : Nat} {Y : Int} (hY : Y = 16 * (r.y + y)) (hj : j < 16) (hy : y < r.h.toNat) :
    cntL (windL (edgesL ps Y (Y + 16)) (Y + j) (16 * r.x) (16 * r.w.toNat + 1)) rule (SF ps rule r y j) (y * r.w.toNat) r.w.toNat = SF ps rule r y (j + 1) := by
  rw [cntL, cntK, SF_len]
  apply tab_ext; intro k hk
  rw [SF, tab_getD hk, cntF, stF, stF]
  have e : (y + 1) * r.w.toNat = y * r.w.toNat + r.w.toNat := by rw [Nat.add_mul]; omega
  by_cases h1 : k < y * r.w.toNat
  · rw [if_pos h1, if_pos h1, if_pos h1]; omega
  · rw [if_neg h1, if_neg h1, if_neg h1, e]
    by_cases h2 : k < y * r.w.toNat + r.w.toNat
    · rw [if_pos h2, if_pos h2, if_pos h2, cntC_succ, pcW hY hj (by omega)]
    · rw [if_neg h2, if_neg h2, if_neg h2]
      split
      · simp [pcnt]
      · omega
theorem insB0 {rule : Int} : insB rule 0 = false := by unfold insB; split <;> simp
theorem ms2 {ps : List (List Pt)} {rule : Int} {r : Rc} {y j : Nat} {Y : Int} (hY : Y = 16 * (r.y + y)) (hj : j < 16) (h : windB (edgesL ps Y (Y + 16)) (Y + j) = false) : SF ps rule r y j = SF ps rule r y (j + 1) := by
  apply tab_ext; intro k hk
  rw [stF, stF]
  split
  · rfl
  · split
    · rw [cntC_succ]
      have : rowC ps rule (16 * (r.x + ((k - y * r.w.toNat : Nat) : Int))) (16 * (r.y + y) + j) 16 = 0 := by
        have hz : ∀ x, insN ps x (16 * (r.y + y) + j) = 0 := fun x => by
          rw [← hY, ← edges_sum ps (y0 := Y) (y1 := Y + 16) (by omega) (by omega)]; exact wind_none h x
        unfold rowC
        simp only [hz, insB0, b2i, Bool.false_eq_true, if_false]
        rfl
      rw [this]; omega
    · rfl
theorem ms3 {ps : List (List Pt)} {rule : Int} {r : Rc} {y j : Nat} (hj : j ≤ 16) (hc : 16 ≤ (j : Int)) : SF ps rule r y j = SG ps rule r y 0 := by
  have : j = 16 := by omega
  subst this; apply tab_ext; intro k hk; rfl
theorem SG_at {ps : List (List Pt)} {rule : Int} {r : Rc} {y x : Nat} (hy : y < r.h.toNat) (hx : x < r.w.toNat) : (SG ps rule r y x).getD (y * r.w.toNat + x) 0 = cntC ps rule (r.x + x) (r.y + y) 16 ∧ y * r.w.toNat + x < NN' r := by
  have e : (y + 1) * r.w.toNat = y * r.w.toNat + r.w.toNat := by rw [Nat.add_mul]; omega
  have h1 : (y + 1) * r.w.toNat ≤ r.h.toNat * r.w.toNat := Nat.mul_le_mul_right _ hy
  have h2 : y * r.w.toNat + x < NN' r := by unfold NN'; rw [Nat.mul_comm r.w.toNat]; omega
  refine ⟨?_, h2⟩
  rw [SG, tab_getD h2, stG, if_neg (by omega), if_pos (by omega), Nat.add_sub_cancel_left]
theorem ms4 {ps : List (List Pt)} {rule : Int} {r : Rc} {y x : Nat} (hy : y < r.h.toNat) (hx : x < r.w.toNat) : (SG ps rule r y x).set (y * r.w.toNat + x) (divI (65535 * cntC ps rule (r.x + x) (r.y + y) 16) 256) = SG ps rule r y (x + 1) := by
  rw [SG, tab_set]
  apply tab_ext; intro k hk
  by_cases h : k = y * r.w.toNat + x
  · rw [if_pos h, stG, if_pos (by omega), h, msk_at hx]; rfl
  · rw [if_neg h, stG, stG]
    by_cases h1 : k < y * r.w.toNat + x
    · rw [if_pos h1, if_pos (show k < y * r.w.toNat + (x + 1) by omega)]
    · rw [if_neg h1, if_neg (show ¬ k < y * r.w.toNat + (x + 1) by omega)]
theorem ms5 {ps : List (List Pt)} {rule : Int} {r : Rc} {y x : Nat} (hx : x = r.w.toNat) : SG ps rule r y x = SF ps rule r (y + 1) 0 := by
  apply tab_ext; intro k hk
  have e : (y + 1) * r.w.toNat = y * r.w.toNat + r.w.toNat := by rw [Nat.add_mul]; omega
  rw [stG, stF, hx, e]
  split
  · rfl
  · rw [cntC]; simp
theorem ms6 {ps : List (List Pt)} {rule : Int} {r : Rc} {y : Nat} (hy : y = r.h.toNat) : SF ps rule r y 0 = VL ps rule r (r.w.toNat * r.h.toNat) := by
  rw [SF, VL]; apply tab_ext; intro k hk
  rw [stF, if_pos (by rw [hy, Nat.mul_comm]; exact hk)]
end Go.Rect

set_option linter.unusedSimpArgs false
set_option linter.unusedVariables false
namespace Go.Rect
open Go.Eng
abbrev Sz (r : Rc) : Prop := 1 ≤ r.w ∧ r.w ≤ 256 ∧ 1 ≤ r.h ∧ r.h ≤ 256 ∧ -1048576 ≤ r.x ∧ r.x + r.w ≤ 1048576 ∧ -1048576 ≤ r.y ∧ r.y + r.h ≤ 1048576
theorem NN_bd {r : Rc} (hs : Sz r) : NN' r ≤ 65536 := by
  unfold NN'
  have : r.w.toNat * r.h.toNat ≤ 256 * 256 := Nat.mul_le_mul (by omega) (by omega)
  omega
theorem mN {r : Rc} (hs : Sz r) : IntKind.i64.wrap (r.w * r.h) = ((NN' r : Nat) : Int) := by
  have e : r.w * r.h = ((NN' r : Nat) : Int) := by
    unfold NN'; rw [Int.natCast_mul, Int.toNat_of_nonneg (by omega), Int.toNat_of_nonneg (by omega)]
  have := NN_bd hs
  rw [e, w64 (by omega) (by omega)]
theorem mT {r : Rc} (hs : Sz r) : IntKind.i64.wrap (IntKind.i64.wrap (16 * r.w) + 1) = ((16 * r.w.toNat + 1 : Nat) : Int) := by
  rw [w64 (n := 16 * r.w) (by omega) (by omega), w64 (by omega) (by omega)]; omega
theorem yw {r : Rc} {y : Nat} (hs : Sz r) (hy : (y : Int) < r.h) : (y + 1) * r.w.toNat ≤ NN' r ∧ (y + 1) * r.w.toNat = y * r.w.toNat + r.w.toNat ∧ y * r.w.toNat ≤ 65536 := by
  have h1 : (y + 1) * r.w.toNat ≤ r.h.toNat * r.w.toNat := Nat.mul_le_mul_right _ (by omega)
  have h2 : (y + 1) * r.w.toNat = y * r.w.toNat + r.w.toNat := by rw [Nat.add_mul]; omega
  have h3 := NN_bd hs
  unfold NN' at *
  rw [Nat.mul_comm r.w.toNat] at *
  omega
theorem mLo {r : Rc} {y : Nat} (hs : Sz r) (hy : (y : Int) < r.h) : IntKind.i64.wrap ((y : Int) * r.w) = ((y * r.w.toNat : Nat) : Int) := by
  have e : (y : Int) * r.w = ((y * r.w.toNat : Nat) : Int) := by rw [Int.natCast_mul, Int.toNat_of_nonneg (by omega)]
  have := yw hs hy
  rw [e, w64 (by omega) (by omega)]
theorem mHi {r : Rc} {y : Nat} (hs : Sz r) (hy : (y : Int) < r.h) : IntKind.i64.wrap (IntKind.i64.wrap ((y : Int) + 1) * r.w) = (((y + 1) * r.w.toNat : Nat) : Int) := by
  have e : ((y : Int) + 1) * r.w = (((y + 1) * r.w.toNat : Nat) : Int) := by rw [Int.natCast_mul, Int.toNat_of_nonneg (by omega)]; rfl
  have h1 := yw hs hy; have h2 := NN_bd hs
  rw [w64 (n := (y : Int) + 1) (by omega) (by omega), e, w64 (by omega) (by omega)]
theorem rowW {r : Rc} {y : Nat} : (y + 1) * r.w.toNat - y * r.w.toNat = r.w.toNat := by rw [Nat.add_mul]; omega
theorem sl_1 {r : Rc} {y : Nat} : ((y * r.w.toNat : Nat) : Int) ≤ (((y + 1) * r.w.toNat : Nat) : Int) := by
  have : (y + 1) * r.w.toNat = y * r.w.toNat + r.w.toNat := by rw [Nat.add_mul]; omega
  omega
theorem sl_2 {r : Rc} {y : Nat} (hs : Sz r) (hy : (y : Int) < r.h) : (((y + 1) * r.w.toNat : Nat) : Int) ≤ ((NN' r : Nat) : Int) := by have := yw hs hy; omega
theorem sl_3 {r : Rc} {y : Nat} (hs : Sz r) (hy : (y : Int) < r.h) : ((y * r.w.toNat : Nat) : Int) < ((NN' r : Nat) : Int) ∨ ((y * r.w.toNat : Nat) : Int) = 0 := by have := yw hs hy; omega
theorem sf_bd (ps : List (List Pt)) (rule : Int) (r : Rc) (y j : Nat) (hj : j ≤ 16) : ∀ k, 0 ≤ (SF ps rule r y j).getD k 0 ∧ (SF ps rule r y j).getD k 0 ≤ 1099511627776 := by
  intro k
  by_cases h : k < NN' r
  · rw [SF, tab_getD h, stF]
    split
    · have h1 := cntC_bd ps rule (r.x + ((k % r.w.toNat : Nat) : Int)) (r.y + ((k / r.w.toNat : Nat) : Int)) 16
      unfold mskV valI divI; omega
    · split
      · have h1 := cntC_bd ps rule (r.x + ((k - y * r.w.toNat : Nat) : Int)) (r.y + y) j
        omega
      · omega
  · have : (SF ps rule r y j).getD k 0 = 0 := by
      rw [List.getD_eq_getElem?_getD, List.getElem?_eq_none (by rw [SF_len]; omega)]; rfl
    omega
theorem windL_len (l : List Ed) (y x0 : Int) (n : Nat) : (windL l y x0 n).length = n := by rw [windL, wind_len]; simp
theorem tkWL (l : List Ed) (y x0 : Int) (n : Nat) : ((windL l y x0 n).map iC).take n = (windL l y x0 n).map iC := List.take_of_length_le (by rw [List.length_map, windL_len]; exact Nat.le_refl n)
theorem ps_bd {ps : List (List Pt)} (hv : checkE ps 0 = 0) {y0 y1 y x0 : Int} {m : Nat} : ∀ c, c ≤ 16 * m → -281474976710656 ≤ psum (windL (edgesL ps y0 y1) y x0 (16 * m + 1)) c ∧ psum (windL (edgesL ps y0 y1) y x0 (16 * m + 1)) c ≤ 281474976710656 := by
  intro c hc
  cases c with
  | zero => simp [psum]
  | succ c =>
    rw [windL_sum (by omega)]
    have h1 := crS_bd (x0 + c) y (edgesL ps y0 y1); have h2 := edgesL_len ps y0 y1; have h3 := (check0 hv).1
    unfold crS at h1; omega
theorem cn_w {ps : List (List Pt)} {rule : Int} {x y : Int} : IntKind.i64.wrap (65535 * cntC ps rule x y 16) = 65535 * cntC ps rule x y 16 ∧ 0 ≤ 65535 * cntC ps rule x y 16 ∧ 65535 * cntC ps rule x y 16 ≤ 16776960 := by
  have h := cntC_bd ps rule x y 16
  rw [w64 (by omega) (by omega)]; omega
theorem cm4 {ps : List (List Pt)} {rule : Int} {r : Rc} {y : Nat} (h : checkE ps rule = 0) (ha : areaE r = 0) (he : emptyB r = false) (hY : y ≤ r.h.toNat) (hc : r.h ≤ (y : Int)) : maskR ps rule r = ⟨r.w, r.h, SF ps rule r y 0⟩ ∧ maskE ps rule r = 0 := by
  rw [ms6 (by omega)]; exact mkE4 h ha he
end Go.Rect

set_option linter.unusedSimpArgs false
set_option linter.unusedVariables false
namespace Go.Rect
open Go.Eng
/-! ### Paint -/
structure Im where
  w : Int
  h : Int
  p : List Px
  deriving DecidableEq, Inhabited
def imC (m : Im) : List D := [.i m.w, .i m.h, .sl 4 (m.p.map pxC)]
def imD (m : Im) : D := .agg (imC m)
def unIm : List D → Im
  | [.i w, .i h, .sl _ l] => ⟨w, h, l.map unPx⟩
  | _ => ⟨0, 0, []⟩
theorem unImE (w h : Int) (v : List Px) : unIm [.i w, .i h, .sl 4 (v.map pxC)] = ⟨w, h, v⟩ := by simp only [unIm, mapPx]
def paintE (ps : List (List Pt)) (rule : Int) (c : Px) (r : Rc) : Int := if checkE ps rule ≠ 0 then checkE ps rule else if validP c = false then 2 else maskE ps rule r
def paintR (ps : List (List Pt)) (rule : Int) (c : Px) (r : Rc) : Im := if paintE ps rule c r = 0 then ⟨(maskR ps rule r).w, (maskR ps rule r).h, (maskR ps rule r).v.map (fadeP c)⟩ else ⟨0, 0, []⟩
theorem mask_len (ps : List (List Pt)) (rule : Int) (r : Rc) : (maskR ps rule r).v.length ≤ 65536 := by
  unfold maskR
  split
  · rename_i h
    have he := h.2
    have ha : areaE r = 0 := by
      have := h.1; unfold maskE at this
      split at this
      · contradiction
      · exact this
    have := NN_bd (area_sz ha he)
    rw [VL_len]; exact this
  · simp
def pxK (l : List Int) (c : Px) (k : Nat) : List Px := (l.take k).map (fadeP c) ++ List.replicate (l.length - k) zP
theorem pxK_len {l : List Int} {c : Px} {k : Nat} (h : k ≤ l.length) : (pxK l c k).length = l.length := by simp [pxK]; omega
theorem pxK_0 (l : List Int) (c : Px) : List.replicate l.length zP = pxK l c 0 := by simp [pxK]
theorem pxK_all {l : List Int} {c : Px} {k : Nat} (h : (l.length : Int) ≤ (k : Int)) : pxK l c k = l.map (fadeP c) := by
  rw [pxK, List.take_of_length_le (by omega), show l.length - k = 0 by omega]; simp
theorem pxK_set {l : List Int} {c : Px} {k : Nat} (h : (k : Int) < (l.length : Int)) : (pxK l c k).set k (fadeP c (l.getD k 0)) = pxK l c (k + 1) := by
  have hk : k < l.length := by omega
  have e : l.length - k = (l.length - (k + 1)) + 1 := by omega
  have e2 : ((l.take k).map (fadeP c)).length = k := by simp; omega
  rw [pxK, e, List.replicate_succ, List.set_append, if_neg (by rw [e2]; omega), e2, Nat.sub_self, List.set_cons_zero, pxK, take_succ' (z := (0 : Int)) h]; simp
theorem px_app {l : List Int} {c : Px} {k : Nat} (h : (k : Int) < (l.length : Int)) : ((l.take k).map (fadeP c)).map pxC ++ [[.i (fadeP c (l.getD k 0)).r, .i (fadeP c (l.getD k 0)).g, .i (fadeP c (l.getD k 0)).b, .i (fadeP c (l.getD k 0)).a]] = ((l.take (k + 1)).map (fadeP c)).map pxC := by
  rw [take_succ' (z := (0 : Int)) h]; simp [pxC]
theorem pe1 {ps : List (List Pt)} {rule : Int} {c : Px} {r : Rc} (hc : ¬ checkE ps rule = 0) : paintR ps rule c r = ⟨0, 0, []⟩ ∧ paintE ps rule c r = checkE ps rule := by
  have e : paintE ps rule c r = checkE ps rule := by rw [paintE, if_pos hc]
  exact ⟨by rw [paintR, if_neg (by rw [e]; exact hc)], e⟩
theorem pe2 {ps : List (List Pt)} {rule : Int} {c : Px} {r : Rc} (h : checkE ps rule = 0) (hc : validP c = false) : paintR ps rule c r = ⟨0, 0, []⟩ ∧ paintE ps rule c r = 2 := by
  have e : paintE ps rule c r = 2 := by rw [paintE, if_neg (by simp [h]), if_pos hc]
  exact ⟨by rw [paintR, if_neg (by rw [e]; omega)], e⟩
theorem pe3 {ps : List (List Pt)} {rule : Int} {c : Px} {r : Rc} (h : checkE ps rule = 0) (hp : validP c = true) (hc : ¬ maskE ps rule r = 0) : paintR ps rule c r = ⟨0, 0, []⟩ ∧ paintE ps rule c r = maskE ps rule r := by
  have e : paintE ps rule c r = maskE ps rule r := by rw [paintE, if_neg (by simp [h]), if_neg (by simp [hp])]
  exact ⟨by rw [paintR, if_neg (by rw [e]; exact hc)], e⟩
theorem pe4 {ps : List (List Pt)} {rule : Int} {c : Px} {r : Rc} (h : checkE ps rule = 0) (hp : validP c = true) (hm : maskE ps rule r = 0) : paintR ps rule c r = ⟨(maskR ps rule r).w, (maskR ps rule r).h, (maskR ps rule r).v.map (fadeP c)⟩ ∧ paintE ps rule c r = 0 := by
  have e : paintE ps rule c r = 0 := by rw [paintE, if_neg (by simp [h]), if_neg (by simp [hp]), hm]
  exact ⟨by rw [paintR, if_pos e], e⟩
theorem ik (m : Im) {w h : Int} {v : List Px} {e e' : Int} (hm : m = ⟨w, h, v⟩ ∧ e' = e) : (w = m.w ∧ h = m.h ∧ v.map pxC = m.p.map pxC) ∧ e = e' := by obtain ⟨rfl, rfl⟩ := hm; exact ⟨⟨rfl, rfl, rfl⟩, rfl⟩
theorem ik0 (m : Im) {e e' : Int} (hm : m = ⟨0, 0, []⟩ ∧ e' = e) : (0 = m.w ∧ 0 = m.h ∧ m.p.map pxC = []) ∧ e = e' := by obtain ⟨rfl, rfl⟩ := hm; exact ⟨⟨rfl, rfl, rfl⟩, rfl⟩
theorem pe5 {ps : List (List Pt)} {rule : Int} {c : Px} {r : Rc} {k : Nat} (h : checkE ps rule = 0) (hp : validP c = true) (hm : maskE ps rule r = 0) (hc : ((maskR ps rule r).v.length : Int) ≤ (k : Int)) : paintR ps rule c r = ⟨(maskR ps rule r).w, (maskR ps rule r).h, pxK (maskR ps rule r).v c k⟩ ∧ paintE ps rule c r = 0 := by
  rw [pxK_all hc]; exact pe4 h hp hm
theorem pe6 {ps : List (List Pt)} {rule : Int} {c : Px} {r : Rc} {k : Nat} (h : checkE ps rule = 0) (hp : validP c = true) (hm : maskE ps rule r = 0) (hc : ((maskR ps rule r).v.length : Int) ≤ (k : Int)) : paintR ps rule c r = ⟨(maskR ps rule r).w, (maskR ps rule r).h, ((maskR ps rule r).v.take k).map (fadeP c)⟩ ∧ paintE ps rule c r = 0 := by
  rw [List.take_of_length_le (by omega)]; exact pe4 h hp hm
theorem ikl (m : Im) {w h : Int} {v : List Px} {e e' : Int} {n : Nat} (hn : n = v.length) (hm : m = ⟨w, h, v⟩ ∧ e' = e) : (w = m.w ∧ h = m.h ∧ n = v.length ∧ v.map pxC = m.p.map pxC) ∧ e = e' := by obtain ⟨rfl, rfl⟩ := hm; exact ⟨⟨rfl, rfl, hn, rfl⟩, rfl⟩
/-! ### The laws' own functions -/
def squareL (x0 y0 x1 y1 : Int) : List Pt := [⟨x0, y0⟩, ⟨x1, y0⟩, ⟨x1, y1⟩, ⟨x0, y1⟩]
def coversB (ps : List (List Pt)) (rule : Int) (w : List Int) : Bool := decide (maskE ps rule ⟨0, 0, w.length, 1⟩ = 0) && sameM (maskR ps rule ⟨0, 0, w.length, 1⟩) ⟨w.length, 1, w⟩
end Go.Rect

