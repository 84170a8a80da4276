import Derived.Test.YtgkflbibpkkegaaGreatDoorLD
import Derived.Laws.Bits64b
import Derived.Lib.Mul64
set_option linter.unusedSimpArgs false
set_option linter.unusedVariables false
set_option linter.unusedSimpArgs false
set_option linter.unusedVariables false
namespace Go.Rect
open Go.Eng
def gz (g : Gs) (k : Int) : Gs := ⟨if 0 < k then [] else g.a, if 1 < k then [] else g.b, if 2 < k then [] else g.c, if 3 < k then [] else g.d⟩
def gw (v : Vw) (x y : Int) (m k : Nat) : Gs := ⟨winK v x y 0 m k, winK v x y 1 m k, winK v x y 2 m k, winK v x y 3 m k⟩
def gp (v : Vw) (x y : Int) (m k : Nat) (q : Int) : Gs := ⟨if 0 < q then winK v x y 0 m (k + 1) else winK v x y 0 m k, if 1 < q then winK v x y 1 m (k + 1) else winK v x y 1 m k, if 2 < q then winK v x y 2 m (k + 1) else winK v x y 2 m k, if 3 < q then winK v x y 3 m (k + 1) else winK v x y 3 m k⟩
def so (k : Int) (l : List Int) : List Int := if k = 4 then sortL l else l
def gs (v : Vw) (x y : Int) (q : Int) : Gs := ⟨if 0 < q then so v.kind (winS v x y 0) else winS v x y 0, if 1 < q then so v.kind (winS v x y 1) else winS v x y 1, if 2 < q then so v.kind (winS v x y 2) else winS v x y 2, if 3 < q then so v.kind (winS v x y 3) else winS v x y 3⟩
def fd (v : Vw) (x y : Int) (q : Int) (c : Nat) : Int := if (c : Int) < q then selI v.kind (winS v x y c) else 0
def RkH (v : Vw) (x y : Int) : Prop := (v.kind = 4 ∨ v.kind = 7 ∨ v.kind = 8) ∧ (0 ≤ v.rad ∧ v.rad ≤ 16) ∧ (-16777216 ≤ x ∧ x ≤ 16777216 ∧ -16777216 ≤ y ∧ y ≤ 16777216) ∧ ∀ i j : Int, -v.rad ≤ i → i ≤ v.rad → -v.rad ≤ j → j ≤ v.rad → VIn v (x + i) (y + j)
def e4 : Gs := ⟨[], [], [], []⟩
def nilD : D := .v (.slice none 0 0)
def zNv (TI TV : Nat) (i : Im) (o : Pt) (bd : Rc) (k : Int) (ps : List Int) : ZC := ⟨[.dat (imD i), .dat (ptD o), .dat (rcD bd), .dat (.i k), .dat (.sl 1 (ps.map iC))], [], [], [30000, 30001, 30002, 30003, 30004], Unit, fun _ => True, fun _ => .pt 30000 0, fun _ => rkH TI TV 30000 (vwOf i o bd k ps) nilD ⟨30001, 30002, 30003, 30004⟩ e4⟩
def zqN (TI TV : Nat) (as : List AV) : Option ZQ := match as with
  | [.dat (.agg i), .dat (.agg o), .dat (.agg b), .dat (.i k), .dat (.sl _ ps)] => some ⟨zNv TI TV (unIm i) (unPt o) (unRc b) k (ps.map unI), []⟩
  | _ => none
def nvH (TI TV : Nat) (i : Im) (o : Pt) (bd : Rc) (k : Int) (ps : List Int) (q : Int) : Hp := [(21, some (true, .box TV [.dat (.i i.w), .dat (.i i.h), .dat (.sl 4 (i.p.map pxC)), .dat (.i o.x), .dat (.i o.y), .dat (.i bd.x), .dat (.i bd.y), .dat (.i bd.w), .dat (.i bd.h), .dat (.i k), .dat (.sl 1 (ps.map iC)), .dat (.i (ps.getD 0 0)), .dat (.v (.slice none 0 0)),
  if 0 < q then .vw 20000 0 0 1 else .dat (.v (.slice none 0 0)), if 1 < q then .vw 20001 0 0 1 else .dat (.v (.slice none 0 0)), if 2 < q then .vw 20002 0 0 1 else .dat (.v (.slice none 0 0)), if 3 < q then .vw 20003 0 0 1 else .dat (.v (.slice none 0 0))])),
  (20000, some (true, .arr TI 1 [])), (20001, some (true, .arr TI 1 [])), (20002, some (true, .arr TI 1 [])), (20003, some (true, .arr TI 1 []))]
end Go.Rect

set_option linter.unusedSimpArgs false
set_option linter.unusedVariables false
namespace Go.Rect
open Go.Eng
def belowB (p q : Px) : Bool := decide (p.r ≤ q.r) && decide (p.g ≤ q.g) && decide (p.b ≤ q.b) && decide (p.a ≤ q.a)
structure OkI (i : Im) (r : Int) : Prop where
  chk : ichkE i = 0
  ne : ¬ i.w = 0
  r0 : 0 ≤ r ∧ r ≤ 4
  al : ∀ k, k < i.p.length → ¬ (i.p.getD k zP).a = 0
section
variable {i : Im} {r : Int}
theorem tabP_get {n k : Nat} {f : Nat → Px} (h : k < n) : (tabP n f).getD k zP = f k := by
  rw [List.getD_eq_getElem?_getD, tabP, List.getElem?_map, List.getElem?_range h]; rfl
end
end Go.Rect

set_option linter.unusedSimpArgs false
set_option linter.unusedVariables false
namespace Go.Rect
open Go.Eng
section
variable {i : Im} {r : Int}
theorem dv_1 {a c : Int} (h : 0 < a) : divI (a * c) a = c := by
  unfold divI
  have : 2 * (a * c) + a = a * (2 * c + 1) := by rw [Int.mul_add, Int.mul_one, Int.mul_left_comm]
  rw [this, show 2 * a = a * 2 by omega, Int.mul_ediv_mul_of_pos _ _ h]
  omega
end
end Go.Rect

set_option linter.unusedSimpArgs false
set_option linter.unusedVariables false
namespace Go.Rect
open Go.Eng
def btN (j : Nat) : Int := if j < 64 then ((2 ^ (63 - j) : Nat) : Int) else 0
def MtH (v : Vw) (x y : Int) : Prop := v.ps.length = 2 ∧ (-16 ≤ v.ps.getD 0 0 ∧ v.ps.getD 0 0 ≤ 16) ∧ (-16 ≤ v.ps.getD 1 0 ∧ v.ps.getD 1 0 ≤ 16) ∧ (-16777216 ≤ x ∧ x ≤ 16777216 ∧ -16777216 ≤ y ∧ y ≤ 16777216) ∧
  ∀ i j : Int, -motN v ≤ i → i ≤ motN v → -motN v ≤ j → j ≤ motN v → VIn v (x + i) (y + j)
theorem divI_0 {n : Int} (h : 0 ≤ n) : divI 0 n = 0 := by
  unfold divI
  rcases Int.lt_or_eq_of_le h with h | h
  · rw [Int.ediv_eq_zero_of_lt] <;> omega
  · subst h; rfl
def PgH (v : Vw) (x y : Int) : Prop := v.ps.length = 1 ∧ (1 ≤ v.ps.getD 0 0 ∧ v.ps.getD 0 0 ≤ 16) ∧ BdOk v.bd ∧ (v.bd.x ≤ x ∧ x < v.bd.x + v.bd.w) ∧ (v.bd.y ≤ y ∧ y < v.bd.y + v.bd.h) ∧
  ∀ i j : Int, -(v.ps.getD 0 0 - 1) ≤ i → i ≤ v.ps.getD 0 0 - 1 → -(v.ps.getD 0 0 - 1) ≤ j → j ≤ v.ps.getD 0 0 - 1 → VIn v (x + i) (y + j)
section
variable {v : Vw} {x y : Int}
end
def EdH (v : Vw) (x y : Int) : Prop := (-16777216 ≤ x ∧ x ≤ 16777216 ∧ -16777216 ≤ y ∧ y ≤ 16777216) ∧ ∀ i j : Int, -1 ≤ i → i ≤ 1 → -1 ≤ j → j ≤ 1 → VIn v (x + i) (y + j)
def NwH (v : Vw) (x y : Int) : Prop := (v.kind = 5 ∨ v.kind = 6 ∨ v.kind = 9 ∨ v.kind = 10) ∧ (v.kind = 5 ∨ v.kind = 6 → EdH v x y) ∧ (v.kind = 9 → MtH v x y) ∧ (v.kind = 10 → PgH v x y)
theorem aw_bd {c s a : Int} (hc : 0 ≤ c ∧ c ≤ 65535) (ha : 0 ≤ a) (hs : 0 ≤ s ∧ s ≤ 65535 * a) : 0 ≤ divI s a ∧ divI s a ≤ 65535 := by
  unfold divI
  rcases Int.lt_or_eq_of_le ha with h | h
  · refine ⟨Int.ediv_nonneg (by omega) (by omega), ?_⟩
    apply Int.le_of_lt_add_one
    rw [Int.ediv_lt_iff_lt_mul (by omega)]
    omega
  · subst h; simp
theorem dv0 {a b : Int} (h : b = 0) : 0 = divI a b := by subst h; simp [divI]
theorem dw1z {a b : Int} (h1 : -2305843009213693952 ≤ a) (h2 : a ≤ 2305843009213693952) (h : 0 ≤ b) (h4 : b ≤ 70368744177664)
    (hc : 0 < b ∧ IntKind.i64.wrap (b - IntKind.i64.wrap (a - IntKind.i64.wrap (b * floorI a b))) ≤ IntKind.i64.wrap (a - IntKind.i64.wrap (b * floorI a b)) ∨ b < 0 ∧ IntKind.i64.wrap (a - IntKind.i64.wrap (b * floorI a b)) ≤ IntKind.i64.wrap (b - IntKind.i64.wrap (a - IntKind.i64.wrap (b * floorI a b)))) :
    IntKind.i64.wrap (floorI a b + 1) = divI a b := dw1 h1 h2 (by omega) h4 hc
theorem dw2z {a b : Int} (h1 : -2305843009213693952 ≤ a) (h2 : a ≤ 2305843009213693952) (h : 0 ≤ b) (h4 : b ≤ 70368744177664) (h0 : ¬ b = 0)
    (hc : (decide (0 < b) && decide (IntKind.i64.wrap (b - IntKind.i64.wrap (a - IntKind.i64.wrap (b * floorI a b))) ≤ IntKind.i64.wrap (a - IntKind.i64.wrap (b * floorI a b)))) = false ∧ (decide (b < 0) && decide (IntKind.i64.wrap (a - IntKind.i64.wrap (b * floorI a b)) ≤ IntKind.i64.wrap (b - IntKind.i64.wrap (a - IntKind.i64.wrap (b * floorI a b))))) = false) :
    floorI a b = divI a b := dw2 h1 h2 (by omega) h4 hc
end Go.Rect

set_option linter.unusedSimpArgs false
set_option linter.unusedVariables false
namespace Go.Rect
open Go.Eng
def pickP (m : Im) (x y : Int) : Px := if (0 ≤ x ∧ x < m.w) ∧ 0 ≤ y ∧ y < m.h then m.p.getD (y * m.w + x).toNat zP else zP
theorem pkp_ix {m : Im} {x y : Int} (hm : ichkE m = 0) (h : (0 ≤ x ∧ x < m.w) ∧ 0 ≤ y ∧ y < m.h) : (0 ≤ y * m.w ∧ y * m.w ≤ 65536) ∧ 0 ≤ y * m.w + x ∧ (y * m.w + x).toNat < m.p.length ∧ (m.p.length : Int) ≤ 65536 := by
  obtain ⟨hz, _, hl, _⟩ := ichk0 hm
  have hY : ((y.toNat : Nat) : Int) = y := Int.toNat_of_nonneg h.2.1
  have hX : ((x.toNat : Nat) : Int) = x := Int.toNat_of_nonneg h.1.1
  have hi := yxI (y := y.toNat) (x := x.toNat) hz (by omega) (by omega)
  have hb := nn_bd hz
  rw [hY, hX] at hi
  refine ⟨⟨hi.2.2.1, hi.2.2.2.1⟩, by omega, ?_, by omega⟩
  rw [hi.1, Int.toNat_natCast, hl]; exact hi.2.1
theorem pkp_ok {m : Im} {x y : Int} (hm : ichkE m = 0) : validP (pickP m x y) = true := by
  unfold pickP
  split
  · next h => exact (ichk0 hm).2.2.2 _ (pkp_ix hm h).2.2.1
  · decide
theorem pkp0 {m : Im} {x y : Int} (hc : ((x < 0 ∨ m.w ≤ x) ∨ y < 0) ∨ m.h ≤ y) : zP = pickP m x y := by rw [pickP, if_neg (by omega)]
theorem pkp_h {m : Im} {x y : Int} (hc : ((0 ≤ x ∧ x < m.w) ∧ 0 ≤ y) ∧ y < m.h) : (0 ≤ x ∧ x < m.w) ∧ 0 ≤ y ∧ y < m.h := by omega
theorem pkp1 {m : Im} {x y : Int} (hc : ((0 ≤ x ∧ x < m.w) ∧ 0 ≤ y) ∧ y < m.h) : m.p.getD (y * m.w + x).toNat zP = pickP m x y := by rw [pickP, if_pos (pkp_h hc)]
def crpE (m : Im) (r : Rc) : Int := if ichkE m ≠ 0 then ichkE m else if validB r = false then 2 else if 256 < r.w ∨ 256 < r.h then 15 else 0
def crpF (m : Im) (r : Rc) (x y : Int) : Px := pickP m (r.x + x) (r.y + y)
def crpR (m : Im) (r : Rc) : Im := if crpE m r = 0 ∧ emptyB r = false then ⟨r.w, r.h, tabP (nn r.w r.h) (gP r.w.toNat (crpF m r))⟩ else zI
theorem crq1 {m : Im} {r : Rc} (hc : ¬ ichkE m = 0) : crpR m r = ⟨0, 0, []⟩ ∧ crpE m r = ichkE m := by
  have e : crpE m r = ichkE m := by rw [crpE, if_pos hc]
  exact ⟨by rw [crpR, e, if_neg (fun h => hc h.1)]; rfl, e⟩
theorem crq2 {m : Im} {r : Rc} (h : ichkE m = 0) (hc : validB r = false) : crpR m r = ⟨0, 0, []⟩ ∧ crpE m r = 2 := by
  have e : crpE m r = 2 := by rw [crpE, if_neg (by omega), if_pos hc]
  exact ⟨by rw [crpR, e]; rfl, e⟩
theorem crq3 {m : Im} {r : Rc} (h : ichkE m = 0) (h2 : validB r = true) (hc : 256 < r.w ∨ 256 < r.h) : crpR m r = ⟨0, 0, []⟩ ∧ crpE m r = 15 := by
  have e : crpE m r = 15 := by rw [crpE, if_neg (by omega), if_neg (by simp [h2]), if_pos hc]
  exact ⟨by rw [crpR, e]; rfl, e⟩
theorem crE {m : Im} {r : Rc} (h : ichkE m = 0) (h2 : validB r = true) (h3 : r.w ≤ 256 ∧ r.h ≤ 256) : crpE m r = 0 := by rw [crpE, if_neg (by omega), if_neg (by simp [h2]), if_neg (by omega)]
theorem crq4 {m : Im} {r : Rc} (h : ichkE m = 0) (h2 : validB r = true) (h3 : r.w ≤ 256 ∧ r.h ≤ 256) (hc : emptyB r = true) : crpR m r = ⟨0, 0, []⟩ ∧ crpE m r = 0 :=
  ⟨by rw [crpR, if_neg (by simp [hc])]; rfl, crE h h2 h3⟩
theorem crq5 {m : Im} {r : Rc} (h : ichkE m = 0) (h2 : validB r = true) (h3 : r.w ≤ 256 ∧ r.h ≤ 256) (hc : emptyB r = false) : crpR m r = ⟨r.w, r.h, tabP (nn r.w r.h) (gP r.w.toNat (crpF m r))⟩ ∧ crpE m r = 0 :=
  ⟨by rw [crpR, if_pos ⟨crE h h2 h3, hc⟩], crE h h2 h3⟩
theorem cr_z {r : Rc} (hc : emptyB r = false) (h3 : r.w ≤ 256 ∧ r.h ≤ 256) : Z0 r.w r.h := by have := empty_spec.1 hc; unfold Z0; omega
def nwpE (w h : Int) (p : Px) : Int := if isz w h = false then 15 else if validP p = false then 2 else 0
def nwpR (w h : Int) (p : Px) : Im := if nwpE w h p = 0 then ⟨w, h, tabP (nn w h) fun _ => p⟩ else zI
theorem isz_T {w h : Int} (hc : (((0 ≤ w ∧ w ≤ 256) ∧ 0 ≤ h) ∧ h ≤ 256) ∧ (w == 0) = (h == 0)) : isz w h = true := by
  unfold isz
  simp only [Bool.and_eq_true, decide_eq_true_eq, beq_iff_eq]
  exact ⟨by omega, hc.2⟩
theorem np1 {w h : Int} {p : Px} (hc : isz w h = false) : nwpR w h p = ⟨0, 0, []⟩ ∧ nwpE w h p = 15 := by
  have e : nwpE w h p = 15 := by rw [nwpE, if_pos hc]
  exact ⟨by rw [nwpR, e]; rfl, e⟩
theorem np2 {w h : Int} {p : Px} (h1 : isz w h = true) (hc : validP p = false) : nwpR w h p = ⟨0, 0, []⟩ ∧ nwpE w h p = 2 := by
  have e : nwpE w h p = 2 := by rw [nwpE, if_neg (by simp [h1]), if_pos hc]
  exact ⟨by rw [nwpR, e]; rfl, e⟩
theorem np3 {w h : Int} {p : Px} (h1 : isz w h = true) (hc : validP p = true) : nwpR w h p = ⟨w, h, tabP (nn w h) fun _ => p⟩ ∧ nwpE w h p = 0 := by
  have e : nwpE w h p = 0 := by rw [nwpE, if_neg (by simp [h1]), if_neg (by simp [hc])]
  exact ⟨by rw [nwpR, e]; rfl, e⟩
theorem vP_of {p : Px} (h : (0 ≤ p.r ∧ p.r ≤ 65535) ∧ (0 ≤ p.g ∧ p.g ≤ 65535) ∧ (0 ≤ p.b ∧ p.b ≤ 65535) ∧ (0 ≤ p.a ∧ p.a ≤ 65535)) : validP p = true := by
  unfold validP limP unitI
  rw [decide_eq_true_eq]
  obtain ⟨r, g, b, a⟩ := p
  simp only at h
  congr 1 <;> (simp only; omega)
theorem zP_ok : validP zP = true := by decide
theorem dv_in {s a : Int} (ha : 0 ≤ a) (hs : 0 ≤ s ∧ s ≤ 65535 * a) : 0 ≤ divI s a ∧ divI s a ≤ 65535 := aw_bd (c := 0) (by omega) ha hs
theorem mean_ok {s : Sm} (h : SmOk s) : validP (meanS s) = true := by
  unfold SmOk at h
  unfold meanS
  split
  · exact zP_ok
  · split
    · exact zP_ok
    · exact vP_of ⟨dv_in (by omega) h.2.2.2.2.1, dv_in (by omega) h.2.2.2.2.2.1, dv_in (by omega) h.2.2.2.2.2.2, dv_in (by omega) ⟨by omega, by omega⟩⟩
def FlH (v : Vw) (wt : List Int) (x y : Int) : Prop := (v.kind = 1 ∨ v.kind = 2 ∨ v.kind = 3 → SqH v wt x y) ∧ (v.kind = 4 ∨ v.kind = 7 ∨ v.kind = 8 → RkH v x y) ∧ (v.kind = 5 ∨ v.kind = 6 → EdH v x y) ∧ (v.kind = 9 → MtH v x y) ∧ (v.kind = 10 → PgH v x y) ∧ (1 ≤ v.kind ∧ v.kind ≤ 10)
end Go.Rect

set_option linter.unusedSimpArgs false
set_option linter.unusedVariables false
namespace Go.Rect
open Go.Eng
structure Lik (v u : Vw) (x y R : Int) : Prop where
  bd : u.bd = v.bd
  kind : u.kind = v.kind
  ps : u.ps = v.ps
  rad : u.rad = v.rad
  px : ∀ a b : Int, -R ≤ a → a ≤ R → -R ≤ b → b ≤ R → pixF u (x + a) (y + b) = pixF v (x + a) (y + b)
section
variable {v u : Vw} {x y R : Int} {wt : List Int}
end
section
variable {i : Im} {k : Int} {ps : List Int}
def allR (i : Im) : Rc := ⟨0, 0, i.w, i.h⟩
theorem ich_of {w h : Int} {f : Nat → Px} (hs : isz w h = true) (hp : ∀ j, j < nn w h → validP (f j) = true) : ichkE ⟨w, h, tabP (nn w h) f⟩ = 0 := by
  have hz := isz_z hs
  rw [ichkE, if_pos, if_pos]
  · rw [List.all_eq_true]
    intro p hp'
    simp only [tabP, List.mem_map, List.mem_range] at hp'
    obtain ⟨j, hj, rfl⟩ := hp'
    exact hp j hj
  · rw [iszE]
    simp only [hs, Bool.true_and, decide_eq_true_eq, tabP_len]
    exact nnE hz
end
end Go.Rect

set_option linter.unusedSimpArgs false
set_option linter.unusedVariables false
namespace Go.Rect
open Go.Eng
section
variable {i : Im} {k : Int} {ps : List Int} {out : Rc}
structure PtH (i : Im) (k : Int) (ps : List Int) (out : Rc) : Prop where
  hi : ichkE i = 0
  hf : fchkE k ps = 0
  hv : validB out = true
  he : emptyB out = false
  hw : withinB out (allR i) = true
end
end Go.Rect

set_option linter.unusedSimpArgs false
set_option linter.unusedVariables false
namespace Go.Rect
open Go.Eng
def plP (k : Int) (p : Px) : Px := if k = 5 then ⟨0, 0, 0, p.a⟩ else if k = 6 then ⟨32768, 32768, 32768, p.a⟩ else p
structure UnS (s : Sm) (p : Px) : Prop where
  a : s.a = s.w * p.a
  r : s.r = s.a * p.r
  g : s.g = s.a * p.g
  b : s.b = s.a * p.b
theorem un_z (p : Px) : UnS zS p := ⟨by simp [zS], by simp [zS], by simp [zS], by simp [zS]⟩
theorem un_add {s : Sm} {p : Px} (h : UnS s p) (w : Int) : UnS (addS s p w) p := by
  refine ⟨?_, ?_, ?_, ?_⟩ <;> simp only [addS]
  · rw [h.a, Int.add_mul]
  · rw [h.r, Int.add_mul]
  · rw [h.g, Int.add_mul]
  · rw [h.b, Int.add_mul]
theorem un_mean {s : Sm} {p : Px} (h : UnS s p) (hw : 0 < s.w) (ha : 0 < p.a) : meanS s = p := by
  have hA : 0 < s.a := by rw [h.a]; exact Int.mul_pos hw ha
  have e : divI s.a s.w = p.a := by rw [h.a]; exact dv_1 hw
  rw [meanS, if_neg (by omega), e, if_neg (by omega), h.r, h.g, h.b, dv_1 hA, dv_1 hA, dv_1 hA]
theorem foldl_inv {α β : Type} {f : β → α → β} {I : β → Prop} : ∀ (l : List α) (b : β), I b → (∀ a ∈ l, ∀ b, I b → I (f b a)) → I (l.foldl f b)
  | [], b, h, _ => h
  | a :: l, b, h, hs => by
    simp only [List.foldl_cons]
    exact foldl_inv l _ (hs a (by simp) b h) fun a' ha => hs a' (by simp [ha])
section
variable {v : Vw} {wt : List Int} {x y : Int} {p : Px}
def UniV (v : Vw) (p : Px) : Prop := ∀ x y, VIn v x y → pixF v x y = p
end
section
variable {w h k : Int} {p : Px} {ps : List Int}
structure UnH (w h : Int) (p : Px) (k : Int) (ps : List Int) : Prop where
  sz : isz w h = true
  vp : validP p = true
  pa : ¬ p.a = 0
  hf : fchkE k ps = 0
end
def p5 (k : Int) (p : Px) : Px := if k = 5 then ⟨0, 0, 0, p.a⟩ else p
end Go.Rect

set_option linter.unusedSimpArgs false
set_option linter.unusedVariables false
namespace Go.Rect
open Go.Eng
def plQ (k : Int) (p : Px) : Px := if k = 5 then ⟨0, 0, 0, p.a⟩ else p
end Go.Rect

