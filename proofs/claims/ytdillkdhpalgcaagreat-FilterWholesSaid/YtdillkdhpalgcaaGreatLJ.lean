import Derived.Test.YtdillkdhpalgcaaGreatLI
set_option linter.unusedSimpArgs false
set_option linter.unusedVariables false
set_option linter.unusedSimpArgs false
set_option linter.unusedVariables false
namespace Go.Rect
open Go.Eng
def rvC (i : Im) (o : Pt) (bd : Rc) : List D := [.i i.w, .i i.h, .sl 4 (i.p.map pxC), .i o.x, .i o.y, .i bd.x, .i bd.y, .i bd.w, .i bd.h]
def rvD (i : Im) (o : Pt) (bd : Rc) : D := .agg (rvC i o bd)
def rvV (l : List D) (k : Int) (ps : List Int) (r : Int) : Vw := match l with
  | [.i w, .i h, .sl _ p, .i ox, .i oy, .i bx, .i by', .i bw, .i bh] => ⟨⟨w, h, p.map unPx⟩, ⟨ox, oy⟩, ⟨bx, by', bw, bh⟩, k, ps, r⟩
  | _ => ⟨⟨0, 0, []⟩, ⟨0, 0⟩, ⟨0, 0, 0, 0⟩, k, ps, r⟩
theorem rvVE (w h ox oy bx by' bw bh k r : Int) (p : List Px) (ps : List Int) : rvV [.i w, .i h, .sl 4 (p.map pxC), .i ox, .i oy, .i bx, .i by', .i bw, .i bh] k ps r = ⟨⟨w, h, p⟩, ⟨ox, oy⟩, ⟨bx, by', bw, bh⟩, k, ps, r⟩ := by simp only [rvV, mapPx]
def rsC (s : Sm) : List D := [.i s.w, .i s.a, .i s.r, .i s.g, .i s.b]
def rsD (s : Sm) : D := .agg (rsC s)
def unRs : List D → Sm
  | [.i w, .i a, .i r, .i g, .i b] => ⟨r, g, b, a, w⟩
  | _ => ⟨0, 0, 0, 0, 0⟩
theorem unRsE (w a r g b : Int) : unRs [.i w, .i a, .i r, .i g, .i b] = ⟨r, g, b, a, w⟩ := rfl
def rnkP (v : Vw) (x y : Int) (pl : Int) : Px := ⟨(sortL (winS v x y 0)).getD pl.toNat 0, (sortL (winS v x y 1)).getD pl.toNat 0, (sortL (winS v x y 2)).getD pl.toNat 0, (sortL (winS v x y 3)).getD pl.toNat 0⟩
theorem dv3w {a b : Int} (h : 0 ≤ b) (h0 : ¬ b = 0) (h4 : b ≤ 70368744177664) (q : -2305843009213693952 ≤ a / b ∧ a / b ≤ 2305843009213693952 ∧ 0 ≤ a - b * (a / b) ∧ a - b * (a / b) < b ∧ -2305913377957871616 ≤ b * (a / b) ∧ b * (a / b) ≤ 2305913377957871616)
    (hc : IntKind.u64.wrap (absU b - absU (a - b * (a / b))) ≤ absU (a - b * (a / b))) : IntKind.i64.wrap (a / b + 1) = divI a b := by
  rw [absU_bd (by omega), absU_bd (by omega), u64 (by omega) (by omega)] at hc
  rw [w64 (by omega) (by omega)]
  rcases div_cases (a := a) (b := b) (by omega) with ⟨_, e⟩ | ⟨e, _⟩ <;> omega
theorem dv4w {a b : Int} (h : 0 ≤ b) (h0 : ¬ b = 0) (h4 : b ≤ 70368744177664) (q : -2305843009213693952 ≤ a / b ∧ a / b ≤ 2305843009213693952 ∧ 0 ≤ a - b * (a / b) ∧ a - b * (a / b) < b ∧ -2305913377957871616 ≤ b * (a / b) ∧ b * (a / b) ≤ 2305913377957871616)
    (hc : absU (a - b * (a / b)) < IntKind.u64.wrap (absU b - absU (a - b * (a / b)))) : a / b = divI a b := by
  rw [absU_bd (by omega), absU_bd (by omega), u64 (by omega) (by omega)] at hc
  rcases div_cases (a := a) (b := b) (by omega) with ⟨e, _⟩ | ⟨_, e⟩ <;> omega
theorem at_px {v : Vw} {x y : Int} (h : VIn v x y) : pickP v.src (cxI v x - v.o.x) (cyI v y - v.o.y) = pixF v x y := by
  rw [pickP, if_pos ⟨h.2.2.1, h.2.2.2⟩]; rfl
theorem cl_x {v : Vw} (hb : BdOk v.bd) (x : Int) : clampI x v.bd.x (v.bd.x + v.bd.w - 1) = cxI v x := by unfold clampI cxI; omega
theorem cl_y {v : Vw} (hb : BdOk v.bd) (y : Int) : clampI y v.bd.y (v.bd.y + v.bd.h - 1) = cyI v y := by unfold clampI cyI; omega
theorem mul_c (w a r : Int) : w * r * a = w * a * r := by rw [Int.mul_assoc, Int.mul_comm r a, ← Int.mul_assoc]
theorem mulW {w c : Int} (hw : 0 ≤ w ∧ w ≤ 268435456) (hc : 0 ≤ c ∧ c ≤ 65535) : 0 ≤ w * c ∧ w * c ≤ 17592186044416 := by
  have := mulB hw.1 hc; omega
theorem bin_q : ∀ m, m < 15 → ∀ i, i < 15 → (pF m i * ((m : Int) + 1)).tdiv ((i : Int) + 1) = pF (m + 1) (i + 1) := by decide +kernel
theorem pF0 : ∀ m, m < 16 → pF m 0 = 1 := by decide +kernel
def srtT (l : List Int) (a : Nat) : Prop := ∀ p q, p < q → q < a → l.getD p 0 ≤ l.getD q 0
def srtI (l : List Int) (a b : Nat) : Prop := ∀ p q, p < q → q ≤ a → q ≠ b → l.getD p 0 ≤ l.getD q 0
theorem srt_0 (l : List Int) : srtT l 1 := fun p q h1 h2 => by omega
theorem srt_in {l : List Int} {a : Nat} (h : srtT l a) : srtI l a a := fun p q h1 h2 h3 => h p q h1 (by omega)
theorem srt_out {l : List Int} {a b : Nat} (h : srtI l a b) (hc : b = 0 ∨ l.getD (b - 1) 0 ≤ l.getD b 0) : srtT l (a + 1) := fun p q h1 h2 => by
  by_cases hq : q = b
  · subst hq
    rcases hc with hc | hc
    · omega
    · by_cases hp : p = q - 1
      · subst hp; exact hc
      · exact Int.le_trans (h p (q - 1) (by omega) (by omega) (by omega)) hc
  · exact h p q h1 (by omega) hq
def swpL (l : List Int) (b : Nat) : List Int := (l.set b (l.getD (b - 1) 0)).set (b - 1) (l.getD b 0)
theorem swp_len (l : List Int) (b : Nat) : (swpL l b).length = l.length := by simp [swpL]
theorem swp_perm {l : List Int} {b : Nat} (hb : b < l.length) (h0 : 0 < b) : (swpL l b).Perm l := by
  have := List.set_set_perm (as := l) (i := b) (j := b - 1) hb (by omega)
  unfold swpL
  rw [List.getD_eq_getElem?_getD, List.getD_eq_getElem?_getD, List.getElem?_eq_getElem hb, List.getElem?_eq_getElem (show b - 1 < l.length by omega)]
  exact this
theorem swp_get {l : List Int} {b : Nat} (hb : b < l.length) (h0 : 0 < b) (p : Nat) : (swpL l b).getD p 0 = if p = b then l.getD (b - 1) 0 else if p = b - 1 then l.getD b 0 else l.getD p 0 := by
  unfold swpL
  simp only [List.getD_eq_getElem?_getD, List.getElem?_set, List.length_set]
  by_cases h1 : b - 1 = p
  · subst h1
    have : ¬ b - 1 = b := by omega
    have h2 : b - 1 < l.length := by omega
    simp [this, h2]
  · by_cases h2 : b = p
    · subst h2; simp [h1, hb]
    · have h3 : ¬ p = b := fun e => h2 e.symm
      have h4 : ¬ p = b - 1 := fun e => h1 e.symm
      simp [h1, h2, h3, h4]
theorem swp_I {l : List Int} {a b : Nat} (h : srtI l a b) (hb : b < l.length) (h0 : 0 < b) (hba : b ≤ a) (hc : l.getD b 0 < l.getD (b - 1) 0) : srtI (swpL l b) a (b - 1) := fun p q h1 h2 h3 => by
  rw [swp_get hb h0, swp_get hb h0]
  by_cases hq : q = b
  · subst hq
    rw [if_pos rfl]
    by_cases hp : p = q - 1
    · subst hp
      rw [if_neg (by omega), if_pos rfl]; omega
    · rw [if_neg (by omega), if_neg hp]
      exact h p (q - 1) (by omega) (by omega) (by omega)
  · rw [if_neg hq, if_neg h3]
    by_cases hp : p = b
    · subst hp
      rw [if_pos rfl]
      exact h (p - 1) q (by omega) h2 hq
    · rw [if_neg hp]
      by_cases hp2 : p = b - 1
      · subst hp2
        rw [if_pos rfl]
        by_cases hqb : q < b
        · omega
        · exact h b q (by omega) h2 hq
      · rw [if_neg hp2]
        exact h p q h1 h2 hq
theorem sort_u {l m : List Int} (hp : l.Perm m) (h : srtT l l.length) : l = sortL m := by
  refine List.Perm.eq_of_pairwise (le := fun a b : Int => a ≤ b) (fun a b _ _ h1 h2 => by omega) ?_ ?_ (hp.trans (List.mergeSort_perm m _).symm)
  · rw [List.pairwise_iff_getElem]
    intro i j hi hj hij
    have := h i j hij hj
    simpa [List.getD_eq_getElem?_getD, hi, hj] using this
  · have := List.pairwise_mergeSort (le := fun x y : Int => decide (x ≤ y)) (fun a b c h1 h2 => by simp only [decide_eq_true_eq] at *; omega) (fun a b => by simp only [Bool.or_eq_true, decide_eq_true_eq]; omega) m
    unfold sortL
    simpa only [decide_eq_true_eq] using this
theorem getD_in {l : List Int} {i : Nat} (h : i < l.length) : l.getD i 0 = l[i] := by simp [List.getD_eq_getElem?_getD, h]
theorem sortL_srt (m : List Int) {i j : Nat} (hij : i < j) (hj : j < m.length) : (sortL m).getD i 0 ≤ (sortL m).getD j 0 := by
  have := List.pairwise_mergeSort (le := fun x y : Int => decide (x ≤ y)) (fun a b c h1 h2 => by simp only [decide_eq_true_eq] at *; omega) (fun a b => by simp only [Bool.or_eq_true, decide_eq_true_eq]; omega) m
  have hl := sortL_len m
  rw [List.pairwise_iff_getElem] at this
  have := this i j (by unfold sortL at hl; omega) (by unfold sortL at hl; omega) hij
  simp only [decide_eq_true_eq] at this
  unfold sortL at *
  rw [getD_in (by omega), getD_in (by omega)]
  exact this
theorem sort_mem {m : List Int} {a : Int} : a ∈ sortL m ↔ a ∈ m := by unfold sortL; exact List.mem_mergeSort
theorem sort_last {m : List Int} (h : 0 < m.length) : (sortL m).getD (m.length - 1) 0 = maxO m := by
  have hl := sortL_len m
  apply Int.le_antisymm
  · exact le_maxO (sort_mem.1 (getD_memI (by omega)))
  · have hm := sort_mem.2 (maxO_mem h)
    obtain ⟨k, hk, e⟩ := List.mem_iff_getElem.1 hm
    have e2 : (sortL m).getD k 0 = maxO m := by rw [← e]; simp [List.getD_eq_getElem?_getD, hk]
    rw [← e2]
    by_cases hk2 : k = m.length - 1
    · subst hk2; exact Int.le_refl _
    · exact sortL_srt m (by omega) (by omega)
theorem sort_first {m : List Int} (h : 0 < m.length) : (sortL m).getD 0 0 = minO m := by
  have hl := sortL_len m
  apply Int.le_antisymm
  · have hm := sort_mem.2 (minO_mem h)
    obtain ⟨k, hk, e⟩ := List.mem_iff_getElem.1 hm
    have e2 : (sortL m).getD k 0 = minO m := by rw [← e]; simp [List.getD_eq_getElem?_getD, hk]
    rw [← e2]
    by_cases hk2 : k = 0
    · subst hk2; exact Int.le_refl _
    · exact sortL_srt m (by omega) (by omega)
  · exact minO_le (sort_mem.1 (getD_memI (by omega)))
def WnH (v : Vw) (x y : Int) : Prop := (0 ≤ v.rad ∧ v.rad ≤ 16) ∧ (-16777216 ≤ x ∧ x ≤ 16777216 ∧ -16777216 ≤ y ∧ y ≤ 16777216) ∧ ∀ i j : Int, -v.rad ≤ i → i ≤ v.rad → -v.rad ≤ j → j ≤ v.rad → VIn v (x + i) (y + j)
theorem wn_bd {v : Vw} {x y : Int} (h : WnH v x y) {c m k : Nat} (hm : m ≤ (2 * v.rad + 1).toNat) (hk : k ≤ (2 * v.rad + 1).toNat) : (winK v x y c m k).length ≤ 1200 := by
  rw [winK_len]
  have : m * (2 * v.rad + 1).toNat ≤ 33 * 33 := Nat.mul_le_mul (by have := h.1; omega) (by have := h.1; omega)
  have := h.1
  omega
theorem wns_bd {v : Vw} {x y : Int} (h : WnH v x y) (c : Nat) : 0 < (winS v x y c).length ∧ (winS v x y c).length ≤ 1200 := by
  refine ⟨?_, wn_bd h (Nat.le_refl _) (Nat.zero_le _)⟩
  rw [winS_len]
  exact Nat.mul_pos (by have := h.1; omega) (by have := h.1; omega)
theorem wn_vin {v : Vw} {x y : Int} (h : WnH v x y) {m k : Nat} (hm : m < (2 * v.rad + 1).toNat) (hk : k < (2 * v.rad + 1).toNat) : VIn v (x + ((k : Int) - v.rad)) (y + ((m : Int) - v.rad)) :=
  h.2.2 _ _ (by omega) (by omega) (by omega) (by omega)
theorem wt1 {r : Int} {k : Nat} (hk : k < (2 * r + 1).toNat) : (wtL 1 r).getD k 0 = 1 := by
  rw [wtL, if_neg (by omega), onesL, tab_getD hk]
theorem wt2 {r : Int} {k : Nat} (hk : k < (2 * r + 1).toNat) : (wtL 2 r).getD k 0 = pF (2 * r).toNat k := by
  rw [wtL, if_pos rfl, tab_getD hk]
end Go.Rect

set_option linter.unusedSimpArgs false
set_option linter.unusedVariables false
namespace Go.Rect
open Go.Eng
theorem prod_e {a b : Nat} {c : Nat} (h : a = c / 18446744073709551616) (hb : b = c) : ((a : Nat) : Int) = ((b : Nat) : Int) / 18446744073709551616 := by subst hb; omega
def sgnI (x y : Int) (n : Bool) : Int := if n then 0 else if 0 < x ∨ 9223372036854775807 < y then 9223372036854775807 else y
theorem sg1 {x y : Int} (hc : 0 < x ∨ 9223372036854775807 < y) : 9223372036854775807 = sgnI x y false := by rw [sgnI, if_neg (by decide), if_pos hc]
theorem sg2 {x y : Int} (h : 0 ≤ y) (hc : x ≤ 0 ∧ y ≤ 9223372036854775807) : IntKind.i64.wrap y = sgnI x y false := by rw [sgnI, if_neg (by decide), if_neg (by omega), w64 (by omega) (by omega)]
theorem sg3 {x y : Int} : sgnI 0 (sqN (hypN x y) 64 : Int) false = hypI x y := by
  rw [sgnI, if_neg (by decide), hypI]
  split
  · rw [if_pos (by omega)]
  · rw [if_neg (by omega)]
theorem hy_lo2 {x y : Int} : IntKind.u64.wrap (((x.natAbs * x.natAbs : Nat) : Int) % 18446744073709551616 + ((y.natAbs * y.natAbs : Nat) : Int) % 18446744073709551616) = (hypN x y : Int) % 18446744073709551616 := by
  rw [IntKind.wrap_u64]; unfold hypN; omega
theorem hy_h1 {x y : Int} (h1 : x.natAbs * x.natAbs ≤ 85070591730234615865843651857942052864) (h2 : y.natAbs * y.natAbs ≤ 85070591730234615865843651857942052864) (hc : (hypN x y : Int) % 18446744073709551616 < ((x.natAbs * x.natAbs : Nat) : Int) % 18446744073709551616) :
    IntKind.u64.wrap (IntKind.u64.wrap (((x.natAbs * x.natAbs : Nat) : Int) / 18446744073709551616 + ((y.natAbs * y.natAbs : Nat) : Int) / 18446744073709551616) + 1) = (hypN x y : Int) / 18446744073709551616 := by
  simp only [IntKind.wrap_u64]; unfold hypN at *; omega
theorem hy_h0 {x y : Int} (h1 : x.natAbs * x.natAbs ≤ 85070591730234615865843651857942052864) (h2 : y.natAbs * y.natAbs ≤ 85070591730234615865843651857942052864) (hc : ((x.natAbs * x.natAbs : Nat) : Int) % 18446744073709551616 ≤ (hypN x y : Int) % 18446744073709551616) :
    IntKind.u64.wrap (((x.natAbs * x.natAbs : Nat) : Int) / 18446744073709551616 + ((y.natAbs * y.natAbs : Nat) : Int) / 18446744073709551616) = (hypN x y : Int) / 18446744073709551616 := by
  simp only [IntKind.wrap_u64]; unfold hypN at *; omega
theorem bt_pos {j : Nat} (hj : j ≤ 64) (hc : 0 < btN j) : j < 64 := by
  rcases Nat.lt_or_ge j 64 with h | h
  · exact h
  · have := (bt_ne hj).2 (by omega); omega
theorem bt_npos {j : Nat} (hj : j ≤ 64) (hc : btN j ≤ 0) : j = 64 := by
  refine (bt_ne hj).1 ?_
  have : 0 ≤ btN j := by
    unfold btN
    split
    · exact Int.natCast_nonneg _
    · exact Int.le_refl _
  omega
def atP (m : Im) (x y : Int) : Px := if ichkE m = 0 then pickP m x y else zP
theorem at_0 {m : Im} {x y : Int} (hc : ¬ ichkE m = 0) : zP = atP m x y := by rw [atP, if_neg hc]
theorem at_1 {m : Im} {x y : Int} (hc : ichkE m = 0) : pickP m x y = atP m x y := by rw [atP, if_pos hc]
theorem at_i {m : Im} (hc : ichkE m = 0) (x y : Int) : atP m x y = pickP m x y := by rw [atP, if_pos hc]
theorem mr_1 {s : Sm} (hc : s.a = 0 ∨ divI s.a s.w = 0) : zP = meanS s := by
  by_cases h : s.a = 0
  · exact mn1 h
  · exact mn2 h (hc.resolve_left h)
theorem bin_s {N K i : Nat} (hI : 1 ≤ i ∧ i ≤ K + 1) (hK : i ≤ K) (hN : K ≤ N ∧ N ≤ 14) : (pF (N - K + (i - 1)) (i - 1) * ((N : Int) - (K : Int) + (i : Int))).tdiv (i : Int) = pF (N - K + (i + 1 - 1)) (i + 1 - 1) := by
  have := bin_q (N - K + (i - 1)) (by omega) (i - 1) (by omega)
  rw [show N - K + (i + 1 - 1) = N - K + (i - 1) + 1 by omega, show i + 1 - 1 = i - 1 + 1 by omega, ← this, show (N : Int) - (K : Int) + (i : Int) = ((N - K + (i - 1) : Nat) : Int) + 1 by omega, show (i : Int) = ((i - 1 : Nat) : Int) + 1 by omega]
theorem bin_m {p q : Int} (hp : 0 ≤ p ∧ p ≤ 3432) (hq : 0 ≤ q ∧ q ≤ 14) : 0 ≤ p * q ∧ p * q ≤ 48048 := by
  have h1 := Int.mul_nonneg hp.1 hq.1
  have h2 : p * q ≤ 3432 * 14 := Int.mul_le_mul hp.2 hq.2 hq.1 (by omega)
  omega
theorem bin_e {N K i : Nat} (hI : 1 ≤ i ∧ i ≤ K + 1) (hK : K ≤ N) (hc : K < i) : pF (N - K + (i - 1)) (i - 1) = pF N K := by
  rw [show i - 1 = K by omega, show N - K + K = N by omega]
theorem bin_w {a b c : Nat} (ha : a ≤ 14) : IntKind.i64.wrap (pF a b * pF a c) = pF a b * pF a c := by
  have hb := pas_bd ha b; have hc := pas_bd ha c
  have h1 := Int.mul_nonneg hb.1 hc.1
  have h2 : pF a b * pF a c ≤ 3432 * 3432 := Int.mul_le_mul hb.2 hc.2 hc.1 (by omega)
  exact w64 (by omega) (by omega)
theorem ch_0 {p : Px} {c : Nat} (hc : (c : Int) = 0) : p.r = chn c p := by
  have : c = 0 := by omega
  subst this; rfl
theorem ch_1 {p : Px} {c : Nat} (hc : (c : Int) = 1) : p.g = chn c p := by
  have : c = 1 := by omega
  subst this; rfl
theorem ch_2 {p : Px} {c : Nat} (hc : (c : Int) = 2) : p.b = chn c p := by
  have : c = 2 := by omega
  subst this; rfl
theorem ch_3 {p : Px} {c : Nat} (h0 : ¬ (c : Int) = 0) (h1 : ¬ (c : Int) = 1) (h2 : ¬ (c : Int) = 2) : p.a = chn c p := by
  match c with
  | 0 => omega
  | 1 => omega
  | 2 => omega
  | _ + 3 => rfl
theorem sqw_1 {g : Bool} {r : Int} {k m : Nat} (hc : g = false) (hk : k < (2 * r + 1).toNat) (hm : m < (2 * r + 1).toNat) : (1 : Int) = (wtL (bif g then 2 else 1) r).getD k 0 * (wtL (bif g then 2 else 1) r).getD m 0 := by
  subst hc
  show (1 : Int) = (wtL 1 r).getD k 0 * (wtL 1 r).getD m 0
  rw [wt1 hk, wt1 hm]; rfl
theorem sqw_2 {g : Bool} {r : Int} {k m : Nat} (hc : g = true) (hk : k < (2 * r + 1).toNat) (hm : m < (2 * r + 1).toNat) : pF (2 * r).toNat (r + ((k : Int) - r)).toNat * pF (2 * r).toNat (r + ((m : Int) - r)).toNat = (wtL (bif g then 2 else 1) r).getD k 0 * (wtL (bif g then 2 else 1) r).getD m 0 := by
  subst hc
  show _ = (wtL 2 r).getD k 0 * (wtL 2 r).getD m 0
  rw [wt2 hk, wt2 hm, show (r + ((k : Int) - r)).toNat = k by omega, show (r + ((m : Int) - r)).toNat = m by omega]
theorem srt_end {l : List Int} {a : Nat} (h : srtT l a) (ha : l.length ≤ a) : srtT l l.length := fun p q h1 h2 => h p q h1 (by omega)
theorem rk_len {i : Im} {o : Pt} {bd : Rc} {x y r pl : Int} (hv : WnH ⟨i, o, bd, 0, [], r⟩ x y) (hpl : 0 ≤ pl ∧ pl < (2 * r + 1) * (2 * r + 1)) : ∀ c, 0 ≤ pl ∧ pl < ((winS ⟨i, o, bd, 0, [], r⟩ x y c).length : Int) := fun c => by
  refine ⟨hpl.1, ?_⟩
  have hr := hv.1
  simp only at hr
  rw [winS_len, Int.natCast_mul, Int.toNat_of_nonneg (by simp only; omega)]
  exact hpl.2
theorem edx_e {v : Vw} {x y : Int} : lumF v (x + 1) (y - 1) + 2 * lumF v (x + 1) y + lumF v (x + 1) (y + 1) - lumF v (x - 1) (y - 1) - 2 * lumF v (x - 1) y - lumF v (x - 1) (y + 1) = edgX v x y := by unfold edgX; omega
theorem edy_e {v : Vw} {x y : Int} : lumF v (x - 1) (y + 1) + 2 * lumF v x (y + 1) + lumF v (x + 1) (y + 1) - lumF v (x - 1) (y - 1) - 2 * lumF v x (y - 1) - lumF v (x + 1) (y - 1) = edgY v x y := by unfold edgY; omega
theorem mtn_e (i : Im) (o : Pt) (bd : Rc) (dx dy : Int) : motN ⟨i, o, bd, 0, [dx, dy], 0⟩ = max (max (max dx (-dx)) dy) (-dy) := by
  show max (abs2 dx) (abs2 dy) = _
  unfold abs2; omega
theorem blk_q {b z x : Int} (hz : 1 ≤ z) (hx : b ≤ x) : (x - b).tdiv z = (x - b) / z := Int.tdiv_eq_ediv_of_nonneg (by omega)
theorem ediv_bdx {a z : Int} (ha : 0 ≤ a) (hz : 1 ≤ z) : 0 ≤ a / z ∧ a / z ≤ a := ⟨Int.ediv_nonneg ha (by omega), Int.ediv_le_self z ha⟩
end Go.Rect

set_option linter.unusedSimpArgs false
set_option linter.unusedVariables false
namespace Go.Rect
open Go.Eng
theorem edgX_bd (v : Vw) (x y : Int) : -524280 ≤ edgX v x y ∧ edgX v x y ≤ 524280 := by
  have a := lumF_bd v (x + 1) (y - 1); have b := lumF_bd v (x + 1) y; have c := lumF_bd v (x + 1) (y + 1)
  have d := lumF_bd v (x - 1) (y - 1); have e := lumF_bd v (x - 1) y; have f := lumF_bd v (x - 1) (y + 1)
  unfold edgX; omega
theorem edgY_bd (v : Vw) (x y : Int) : -524280 ≤ edgY v x y ∧ edgY v x y ≤ 524280 := by
  have a := lumF_bd v (x - 1) (y + 1); have b := lumF_bd v x (y + 1); have c := lumF_bd v (x + 1) (y + 1)
  have d := lumF_bd v (x - 1) (y - 1); have e := lumF_bd v x (y - 1); have f := lumF_bd v (x + 1) (y - 1)
  unfold edgY; omega
theorem andF {p q : Prop} [Decidable p] [Decidable q] (h : (decide p && decide q) = false) : ¬ p ∨ ¬ q := by
  simp only [Bool.and_eq_false_iff, decide_eq_false_iff_not] at h
  exact h
theorem srt_c {l : List Int} {b : Nat} (h : (decide (0 < (b : Int)) && decide (l.getD b 0 < l.getD ((b : Int) - 1).toNat 0)) = false) : b = 0 ∨ l.getD (b - 1) 0 ≤ l.getD b 0 := by
  rcases andF h with h | h
  · left; omega
  · by_cases h0 : b = 0
    · exact .inl h0
    · right
      rw [show ((b : Int) - 1).toNat = b - 1 by omega] at h
      omega
theorem swp_i {l : List Int} {b : Nat} (hb : 0 < (b : Int)) : List.map iC ((l.set b (l.getD ((b : Int) - 1).toNat 0)).set ((b : Int) - 1).toNat (l.getD b 0)) = List.map iC (swpL l b) := by
  rw [show ((b : Int) - 1).toNat = b - 1 by omega]; rfl
end Go.Rect

set_option linter.unusedSimpArgs false
set_option linter.unusedVariables false
namespace Go.Rect
open Go.Eng
section
variable {i : Im} {o : Pt} {bd : Rc} {x y k r : Int} {ps : List Int} {wt : List Int}
theorem fl_c {v : Vw} {x y : Int} (h : FlH v wt x y) : VIn v x y := by
  obtain ⟨h1, h2, h3, h4, h5, h6⟩ := h
  by_cases a1 : v.kind = 1 ∨ v.kind = 2 ∨ v.kind = 3
  · exact sq_ctr (h1 a1)
  · by_cases a2 : v.kind = 4 ∨ v.kind = 7 ∨ v.kind = 8
    · have hr := h2 a2
      have := hr.2.2.2 0 0 (by have := hr.2.1; omega) (by have := hr.2.1; omega) (by have := hr.2.1; omega) (by have := hr.2.1; omega)
      simpa only [Int.add_zero] using this
    · by_cases a3 : v.kind = 5 ∨ v.kind = 6
      · exact (ed_in (h3 a3)).2.2.2.2.2.2.2.2
      · by_cases a4 : v.kind = 9
        · exact mt_c (h4 a4)
        · have hg := h5 (by omega)
          have := hg.2.2.2.2.2 0 0 (by have := hg.2.1; omega) (by have := hg.2.1; omega) (by have := hg.2.1; omega) (by have := hg.2.1; omega)
          simpa only [Int.add_zero] using this
theorem sq_same : sqS ⟨i, o, bd, 0, [], ps.getD 0 0⟩ wt x y = sqS ⟨i, o, bd, k, ps, ps.getD 0 0⟩ wt x y := by
  have e : ∀ a b, pixF ⟨i, o, bd, 0, [], ps.getD 0 0⟩ a b = pixF ⟨i, o, bd, k, ps, ps.getD 0 0⟩ a b := fun _ _ => rfl
  simp only [sqS, sqK, sqRow, e]
theorem win_same (c : Nat) : winS ⟨i, o, bd, 0, [], ps.getD 0 0⟩ x y c = winS ⟨i, o, bd, k, ps, ps.getD 0 0⟩ x y c := by
  have e : ∀ a b, pixF ⟨i, o, bd, 0, [], ps.getD 0 0⟩ a b = pixF ⟨i, o, bd, k, ps, ps.getD 0 0⟩ a b := fun _ _ => rfl
  simp only [winS, winK, winR, e]
theorem rf1 (hk : k = 1 ∨ k = 2) : meanS (sqS ⟨i, o, bd, 0, [], ps.getD 0 0⟩ wt x y) = filF ⟨i, o, bd, k, ps, ps.getD 0 0⟩ wt x y := by
  rw [sq_same (k := k)]; exact ff1 hk
theorem wt_13 (r : Int) : wtL 3 r = wtL 1 r := rfl
theorem rf3a (hc : (pixF ⟨i, o, bd, 0, [], 0⟩ x y).a = 0) : zP = filF ⟨i, o, bd, 3, ps, ps.getD 0 0⟩ (wtL 3 (ps.getD 0 0)) x y := by
  rw [← ff3 rfl]; exact sh1 hc
theorem rf3b (hc : ¬ (pixF ⟨i, o, bd, 0, [], 0⟩ x y).a = 0) : (⟨awayI (ps.getD 1 0) (pixF ⟨i, o, bd, 0, [], 0⟩ x y).r (sqS ⟨i, o, bd, 0, [], ps.getD 0 0⟩ (wtL 1 (ps.getD 0 0)) x y).r (sqS ⟨i, o, bd, 0, [], ps.getD 0 0⟩ (wtL 1 (ps.getD 0 0)) x y).a, awayI (ps.getD 1 0) (pixF ⟨i, o, bd, 0, [], 0⟩ x y).g (sqS ⟨i, o, bd, 0, [], ps.getD 0 0⟩ (wtL 1 (ps.getD 0 0)) x y).g (sqS ⟨i, o, bd, 0, [], ps.getD 0 0⟩ (wtL 1 (ps.getD 0 0)) x y).a, awayI (ps.getD 1 0) (pixF ⟨i, o, bd, 0, [], 0⟩ x y).b (sqS ⟨i, o, bd, 0, [], ps.getD 0 0⟩ (wtL 1 (ps.getD 0 0)) x y).b (sqS ⟨i, o, bd, 0, [], ps.getD 0 0⟩ (wtL 1 (ps.getD 0 0)) x y).a, (pixF ⟨i, o, bd, 0, [], 0⟩ x y).a⟩ : Px) = filF ⟨i, o, bd, 3, ps, ps.getD 0 0⟩ (wtL 3 (ps.getD 0 0)) x y := by
  have e : pixF ⟨i, o, bd, 0, [], 0⟩ x y = pixF ⟨i, o, bd, 3, ps, ps.getD 0 0⟩ x y := rfl
  rw [← ff3 rfl, sq_same (k := 3) (ps := ps), ← wt_13]
  rw [e] at hc ⊢
  exact sh2 (v := ⟨i, o, bd, 3, ps, ps.getD 0 0⟩) hc
theorem rf_rk (hk : k = 4 ∨ k = 7 ∨ k = 8) {pl : Int} (h : ∀ c, (sortL (winS ⟨i, o, bd, k, ps, ps.getD 0 0⟩ x y c)).getD pl.toNat 0 = selI k (winS ⟨i, o, bd, k, ps, ps.getD 0 0⟩ x y c)) : rnkP ⟨i, o, bd, 0, [], ps.getD 0 0⟩ x y pl = filF ⟨i, o, bd, k, ps, ps.getD 0 0⟩ wt x y := by
  rw [← ff2 hk, rnkP, win_same (k := k), win_same (k := k), win_same (k := k), win_same (k := k), h, h, h, h]; rfl
theorem wl (hr : 0 ≤ ps.getD 0 0) (c : Nat) : ((winS ⟨i, o, bd, k, ps, ps.getD 0 0⟩ x y c).length : Int) = (2 * ps.getD 0 0 + 1) * (2 * ps.getD 0 0 + 1) := by
  rw [winS_len, Int.natCast_mul, Int.toNat_of_nonneg (by first | omega | (simp only; omega))]
theorem rf4 (hr : 0 ≤ ps.getD 0 0) : rnkP ⟨i, o, bd, 0, [], ps.getD 0 0⟩ x y (((2 * ps.getD 0 0 + 1) * (2 * ps.getD 0 0 + 1)) / 2) = filF ⟨i, o, bd, 4, ps, ps.getD 0 0⟩ wt x y := by
  refine rf_rk (by omega) fun c => ?_
  rw [← wl (k := 4) (i := i) (o := o) (bd := bd) (x := x) (y := y) hr c, selI, if_pos rfl]
  congr 1 <;> omega
theorem rf7 (h : RkH ⟨i, o, bd, 7, ps, ps.getD 0 0⟩ x y) : rnkP ⟨i, o, bd, 0, [], ps.getD 0 0⟩ x y ((2 * ps.getD 0 0 + 1) * (2 * ps.getD 0 0 + 1) - 1) = filF ⟨i, o, bd, 7, ps, ps.getD 0 0⟩ wt x y := by
  refine rf_rk (by omega) fun c => ?_
  rw [← wl (k := 7) (i := i) (o := o) (bd := bd) (x := x) (y := y) h.2.1.1 c, selI, if_neg (by decide), if_pos rfl, ← sort_last (ws_bd h c).1]
  congr 1 <;> omega
theorem rf8 (h : RkH ⟨i, o, bd, 8, ps, ps.getD 0 0⟩ x y) : rnkP ⟨i, o, bd, 0, [], ps.getD 0 0⟩ x y 0 = filF ⟨i, o, bd, 8, ps, ps.getD 0 0⟩ wt x y := by
  refine rf_rk (by omega) fun c => ?_
  rw [selI, if_neg (by decide), if_neg (by decide), ← sort_first (ws_bd h c).1]; rfl
theorem rf5 : (⟨unitI (hypI (edgX ⟨i, o, bd, 0, [], 0⟩ x y) (edgY ⟨i, o, bd, 0, [], 0⟩ x y)), unitI (hypI (edgX ⟨i, o, bd, 0, [], 0⟩ x y) (edgY ⟨i, o, bd, 0, [], 0⟩ x y)), unitI (hypI (edgX ⟨i, o, bd, 0, [], 0⟩ x y) (edgY ⟨i, o, bd, 0, [], 0⟩ x y)), (pixF ⟨i, o, bd, 0, [], 0⟩ x y).a⟩ : Px) = filF ⟨i, o, bd, 5, ps, ps.getD 0 0⟩ wt x y := by
  have e : ∀ a b, pixF ⟨i, o, bd, 0, [], 0⟩ a b = pixF ⟨i, o, bd, 5, ps, ps.getD 0 0⟩ a b := fun _ _ => rfl
  rw [← ff5 rfl]
  simp only [edgeF, edgX, edgY, lumF, grayP, e]
theorem rf6 : (⟨unitI (32768 + lumF ⟨i, o, bd, 0, [], 0⟩ (x + 1) (y + 1) - lumF ⟨i, o, bd, 0, [], 0⟩ (x - 1) (y - 1)), unitI (32768 + lumF ⟨i, o, bd, 0, [], 0⟩ (x + 1) (y + 1) - lumF ⟨i, o, bd, 0, [], 0⟩ (x - 1) (y - 1)), unitI (32768 + lumF ⟨i, o, bd, 0, [], 0⟩ (x + 1) (y + 1) - lumF ⟨i, o, bd, 0, [], 0⟩ (x - 1) (y - 1)), (pixF ⟨i, o, bd, 0, [], 0⟩ x y).a⟩ : Px) = filF ⟨i, o, bd, 6, ps, ps.getD 0 0⟩ wt x y := by
  have e : ∀ a b, pixF ⟨i, o, bd, 0, [], 0⟩ a b = pixF ⟨i, o, bd, 6, ps, ps.getD 0 0⟩ a b := fun _ _ => rfl
  rw [← ff6 rfl]
  simp only [embF, lumF, grayP, e]
theorem rf9 : motF ⟨i, o, bd, 0, [ps.getD 0 0, ps.getD 1 0], 0⟩ x y = filF ⟨i, o, bd, 9, ps, ps.getD 0 0⟩ wt x y := by
  rw [← ff9 rfl]
  have e : ∀ a b, pixF ⟨i, o, bd, 0, [ps.getD 0 0, ps.getD 1 0], 0⟩ a b = pixF ⟨i, o, bd, 9, ps, ps.getD 0 0⟩ a b := fun _ _ => rfl
  simp only [motF, motK, motP, motN, e, List.getD_cons_zero, List.getD_cons_succ]
theorem rf10 : pxlF ⟨i, o, bd, 0, [ps.getD 0 0], 0⟩ x y = filF ⟨i, o, bd, 10, ps, ps.getD 0 0⟩ wt x y := by
  rw [← ff10 rfl]
  have e : ∀ a b, pixF ⟨i, o, bd, 0, [ps.getD 0 0], 0⟩ a b = pixF ⟨i, o, bd, 10, ps, ps.getD 0 0⟩ a b := fun _ _ => rfl
  simp only [pxlF, pgK, pgRow, pgX, pgY, pgW, pgH, e, List.getD_cons_zero]
theorem mt_cv (h : MtH ⟨i, o, bd, 9, ps, ps.getD 0 0⟩ x y) : MtH ⟨i, o, bd, 0, [ps.getD 0 0, ps.getD 1 0], 0⟩ x y := by
  have en : motN ⟨i, o, bd, 0, [ps.getD 0 0, ps.getD 1 0], 0⟩ = motN ⟨i, o, bd, 9, ps, ps.getD 0 0⟩ := rfl
  refine ⟨rfl, h.2.1, h.2.2.1, h.2.2.2.1, fun a b a1 a2 b1 b2 => ?_⟩
  rw [en] at a1 a2 b1 b2
  exact h.2.2.2.2 a b a1 a2 b1 b2
theorem pg_cv (h : PgH ⟨i, o, bd, 10, ps, ps.getD 0 0⟩ x y) : PgH ⟨i, o, bd, 0, [ps.getD 0 0], 0⟩ x y := ⟨rfl, h.2.1, h.2.2.1, h.2.2.2.1, h.2.2.2.2.1, h.2.2.2.2.2⟩
end
theorem rsh_e {i : Im} {o : Pt} {n : Rc} {E : Prop} (hn : -1048576 ≤ n.x ∧ n.x ≤ 1048576 ∧ 0 ≤ n.w ∧ n.w ≤ 2097152 ∧ -1048576 ≤ n.y ∧ n.y ≤ 1048576 ∧ 0 ≤ n.h ∧ n.h ≤ 2097152) (hz : Z0 i.w i.h)
    (hc : ((((n.x < o.x ∨ n.y < o.y) ∨ IntKind.i64.wrap (i.w - n.w) < IntKind.i64.wrap (n.x - o.x)) ∨ IntKind.i64.wrap (i.h - n.h) < IntKind.i64.wrap (n.y - o.y)) ∨ o.x < -1048832) ∨ o.y < -1048832) : showB i o n = false := by
  unfold Z0 at hz
  rw [Bool.eq_false_iff]
  intro h
  simp only [showB, Bool.and_eq_true, decide_eq_true_eq] at h
  rw [w64 (n := i.w - n.w) (by omega) (by omega), w64 (n := n.x - o.x) (by omega) (by omega), w64 (n := i.h - n.h) (by omega) (by omega), w64 (n := n.y - o.y) (by omega) (by omega)] at hc
  omega
theorem rsh_t {i : Im} {o : Pt} {n : Rc} (hn : -1048576 ≤ n.x ∧ n.x ≤ 1048576 ∧ 0 ≤ n.w ∧ n.w ≤ 2097152 ∧ -1048576 ≤ n.y ∧ n.y ≤ 1048576 ∧ 0 ≤ n.h ∧ n.h ≤ 2097152) (hz : Z0 i.w i.h)
    (hc : ((((o.x ≤ n.x ∧ o.y ≤ n.y) ∧ IntKind.i64.wrap (n.x - o.x) ≤ IntKind.i64.wrap (i.w - n.w)) ∧ IntKind.i64.wrap (n.y - o.y) ≤ IntKind.i64.wrap (i.h - n.h)) ∧ -1048832 ≤ o.x) ∧ -1048832 ≤ o.y) : showB i o n = true := by
  unfold Z0 at hz
  simp only [showB, Bool.and_eq_true, decide_eq_true_eq]
  rw [w64 (n := i.w - n.w) (by omega) (by omega), w64 (n := n.x - o.x) (by omega) (by omega), w64 (n := i.h - n.h) (by omega) (by omega), w64 (n := n.y - o.y) (by omega) (by omega)] at hc
  omega
theorem tab_end {r : Rc} {y : Nat} {f : Nat → Px} (hY : y ≤ r.h.toNat) (hc : r.y + r.h ≤ r.y + (y : Int)) : tabP (y * r.w.toNat) f = tabP (nn r.w r.h) f := cr_end hY (by omega)
theorem wh2r {i : Im} {k : Int} {ps : List Int} (h : ichkE i = 0) (hc : ¬ fchkE k ps = 0 ∨ i.w = 0) : whlR i k ps = ⟨0, 0, []⟩ ∧ whlE i k ps = fchkE k ps := by
  by_cases hf : fchkE k ps = 0
  · have := wh3 h hf (hc.resolve_left fun g => g hf)
    exact ⟨this.1, this.2.trans hf.symm⟩
  · exact wh2 h hf
end Go.Rect
namespace Go.Rect
theorem rk_pos {r : Int} (hr : 0 ≤ r) : 1 ≤ (2 * r + 1) * (2 * r + 1) := by
  have := Int.mul_le_mul (a := 1) (b := 1) (c := 2 * r + 1) (d := 2 * r + 1) (by omega) (by omega) (by omega) (by omega)
  omega
theorem reach_all {k : Int} {ps : List Int} (h : fchkE k ps = 0) : 0 ≤ reachI k ps ∧ reachI k ps ≤ 16 := by
  have g := (fk_rg h).1
  by_cases hk : k = 5 ∨ k = 6 ∨ k = 9 ∨ k = 10
  · exact reach_n h hk
  · have := reach_1 h (by omega); omega
end Go.Rect

