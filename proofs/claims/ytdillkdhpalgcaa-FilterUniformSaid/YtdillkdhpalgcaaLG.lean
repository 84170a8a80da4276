import Derived.Test.YtdillkdhpalgcaaLF
import Derived.Test.YtdillkdhpalgcaaEG
set_option linter.unusedSimpArgs false
set_option linter.unusedVariables false
set_option linter.unusedSimpArgs false
set_option linter.unusedVariables false
namespace Go.Rect
open Go.Eng
theorem winR_succ (v : Vw) (x y : Int) (c j k : Nat) : winR v x y c j (k + 1) = winR v x y c j k ++ [chn c (pixF v (x + ((k : Int) - v.rad)) (y + ((j : Int) - v.rad)))] := by simp [winR, List.range_succ]
theorem winK_succ (v : Vw) (x y : Int) (c m k : Nat) : winK v x y c m (k + 1) = winK v x y c m k ++ [chn c (pixF v (x + ((k : Int) - v.rad)) (y + ((m : Int) - v.rad)))] := by rw [winK, winR_succ, ← List.append_assoc]; rfl
theorem winK_over (v : Vw) (x y : Int) (c m k : Nat) (h : k = (2 * v.rad + 1).toNat) : winK v x y c m k = winK v x y c (m + 1) 0 := by
  subst h
  simp [winK, List.range_succ, winR]
theorem winK_len (v : Vw) (x y : Int) (c : Nat) : ∀ (m k : Nat), (winK v x y c m k).length = m * (2 * v.rad + 1).toNat + k
  | 0, k => by simp [winK, winR]
  | m + 1, k => by
    have : (winK v x y c (m + 1) k).length = (winK v x y c (m + 1) 0).length + k := by simp [winK, winR]
    rw [this, ← winK_over v x y c m _ rfl, winK_len v x y c m, Nat.add_mul]; omega
theorem winS_len (v : Vw) (x y : Int) (c : Nat) : (winS v x y c).length = (2 * v.rad + 1).toNat * (2 * v.rad + 1).toNat := by rw [winS, winK_len]; rfl
theorem sortL_len (l : List Int) : (sortL l).length = l.length := by simp [sortL]
theorem mx1 {l : List Int} (h : 0 < l.length) : l.getD 0 0 = (l.take 1).foldl max (l.getD 0 0) := by
  cases l with
  | nil => simp at h
  | cons a l => simp
theorem mx2 {l : List Int} {k : Nat} (h : (k : Int) < (l.length : Int)) : max ((l.take k).foldl max (l.getD 0 0)) (l.getD k 0) = (l.take (k + 1)).foldl max (l.getD 0 0) := by
  rw [take_succ' (z := (0 : Int)) h, List.foldl_append]; rfl
theorem mx3 {l : List Int} {k : Nat} (h : (l.length : Int) ≤ (k : Int)) : (l.take k).foldl max (l.getD 0 0) = maxO l := by rw [List.take_of_length_le (by omega)]; rfl
theorem mi1 {l : List Int} (h : 0 < l.length) : l.getD 0 0 = (l.take 1).foldl min (l.getD 0 0) := by
  cases l with
  | nil => simp at h
  | cons a l => simp
theorem mi2 {l : List Int} {k : Nat} (h : (k : Int) < (l.length : Int)) : min ((l.take k).foldl min (l.getD 0 0)) (l.getD k 0) = (l.take (k + 1)).foldl min (l.getD 0 0) := by
  rw [take_succ' (z := (0 : Int)) h, List.foldl_append]; rfl
theorem mi3 {l : List Int} {k : Nat} (h : (l.length : Int) ≤ (k : Int)) : (l.take k).foldl min (l.getD 0 0) = minO l := by rw [List.take_of_length_le (by omega)]; rfl
/-! ### The view with its scratch -/
structure Gs where
  a : List Int
  b : List Int
  c : List Int
  d : List Int
structure Nm where
  a : Nat
  b : Nat
  c : Nat
  d : Nat
def rkC (v : Vw) (wD : D) (n : Nm) (g : Gs) : List AV := [.dat (.i v.src.w), .dat (.i v.src.h), .dat (.sl 4 (v.src.p.map pxC)), .dat (.i v.o.x), .dat (.i v.o.y), .dat (.i v.bd.x), .dat (.i v.bd.y), .dat (.i v.bd.w), .dat (.i v.bd.h), .dat (.i v.kind), .dat (.sl 1 (v.ps.map iC)), .dat (.i v.rad), .dat wD,
  .vw n.a 0 g.a.length 1, .vw n.b 0 g.b.length 1, .vw n.c 0 g.c.length 1, .vw n.d 0 g.d.length 1]
def rkH (TI TV b : Nat) (v : Vw) (wD : D) (n : Nm) (g : Gs) : Hp := [(b, some (true, .box TV (rkC v wD n g))), (n.a, some (true, .arr TI 1 (g.a.map iC))), (n.b, some (true, .arr TI 1 (g.b.map iC))), (n.c, some (true, .arr TI 1 (g.c.map iC))), (n.d, some (true, .arr TI 1 (g.d.map iC)))]
def zRk (TI TV : Nat) (v : Vw) (wD : D) (g : Gs) (x y : Int) (q : Gs → Prop) (p : Px) : ZC := ⟨[.pt 30000 0, .dat (.i x), .dat (.i y)], rkH TI TV 30000 v wD ⟨30001, 30002, 30003, 30004⟩ g, [30000], [31001, 31002, 31003, 31004], Gs, q, fun _ => .dat (pxD p), fun g' => rkH TI TV 30000 v wD ⟨31001, 31002, 31003, 31004⟩ g'⟩
def rkOf (h : Hp) (nm : Nat) : Option (Vw × D × Nm × Gs) := match geth h nm with
  | some (_, .box _ [.dat (.i w), .dat (.i hh), .dat (.sl _ p), .dat (.i ox), .dat (.i oy), .dat (.i bx), .dat (.i by'), .dat (.i bw), .dat (.i bh), .dat (.i k), .dat (.sl _ ps), .dat (.i r), .dat wD, .vw n1 _ _ _, .vw n2 _ _ _, .vw n3 _ _ _, .vw n4 _ _ _]) =>
    match geth h n1, geth h n2, geth h n3, geth h n4 with
    | some (_, .arr _ _ l1), some (_, .arr _ _ l2), some (_, .arr _ _ l3), some (_, .arr _ _ l4) => some (⟨⟨w, hh, p.map unPx⟩, ⟨ox, oy⟩, ⟨bx, by', bw, bh⟩, k, ps.map unI, r⟩, wD, ⟨n1, n2, n3, n4⟩, ⟨l1.map unI, l2.map unI, l3.map unI, l4.map unI⟩)
    | _, _, _, _ => none
  | _ => none
def nmR (nm : Nat) (n : Nm) : List (Nat × Nat) := [(30000, nm), (30001, n.a), (30002, n.b), (30003, n.c), (30004, n.d)]
def zq (TI TV : Nat) (q : Vw → Gs → Gs → Prop) (F : Vw → Int → Int → Px) (as : List AV) (h : Hp) : Option ZQ := match as with
  | [.pt nm _, .dat (.i x), .dat (.i y)] => match rkOf h nm with
    | some (v, wD, n, g) => some ⟨zRk TI TV v wD g x y (q v g) (F v x y), nmR nm n⟩
    | none => none
  | _ => none
theorem gsEta (g : Gs) : (⟨g.a, g.b, g.c, g.d⟩ : Gs) = g := rfl
end Go.Rect

set_option linter.unusedSimpArgs false
set_option linter.unusedVariables false
namespace Go.Rect
open Go.Eng
theorem toN2i : Int.toNat 2 = 2 := rfl
theorem toN3i : Int.toNat 3 = 3 := rfl
/-- Scratch that is emptied up to k. -/
def gz (g : Gs) (k : Int) : Gs := ⟨if 0 < k then [] else g.a, if 1 < k then [] else g.b, if 2 < k then [] else g.c, if 3 < k then [] else g.d⟩
theorem gz0 (g : Gs) : gz g 0 = g := rfl
theorem gz1 (g : Gs) : gz g 1 = ⟨[], g.b, g.c, g.d⟩ := rfl
theorem gz2 (g : Gs) : gz g 2 = ⟨[], [], g.c, g.d⟩ := rfl
theorem gz3 (g : Gs) : gz g 3 = ⟨[], [], [], g.d⟩ := rfl
theorem gz4 (g : Gs) : gz g 4 = ⟨[], [], [], []⟩ := rfl
/-- The windows of the four values. -/
def gw (v : Vw) (x y : Int) (m k : Nat) : Gs := ⟨winK v x y 0 m k, winK v x y 1 m k, winK v x y 2 m k, winK v x y 3 m k⟩
def gp (v : Vw) (x y : Int) (m k : Nat) (q : Int) : Gs := ⟨if 0 < q then winK v x y 0 m (k + 1) else winK v x y 0 m k, if 1 < q then winK v x y 1 m (k + 1) else winK v x y 1 m k, if 2 < q then winK v x y 2 m (k + 1) else winK v x y 2 m k, if 3 < q then winK v x y 3 m (k + 1) else winK v x y 3 m k⟩
theorem gp0 (v : Vw) (x y : Int) (m k : Nat) : gp v x y m k 0 = ⟨winK v x y 0 m k, winK v x y 1 m k, winK v x y 2 m k, winK v x y 3 m k⟩ := rfl
theorem gp1 (v : Vw) (x y : Int) (m k : Nat) : gp v x y m k 1 = ⟨winK v x y 0 m (k + 1), winK v x y 1 m k, winK v x y 2 m k, winK v x y 3 m k⟩ := rfl
theorem gp2 (v : Vw) (x y : Int) (m k : Nat) : gp v x y m k 2 = ⟨winK v x y 0 m (k + 1), winK v x y 1 m (k + 1), winK v x y 2 m k, winK v x y 3 m k⟩ := rfl
theorem gp3 (v : Vw) (x y : Int) (m k : Nat) : gp v x y m k 3 = ⟨winK v x y 0 m (k + 1), winK v x y 1 m (k + 1), winK v x y 2 m (k + 1), winK v x y 3 m k⟩ := rfl
theorem gp4 (v : Vw) (x y : Int) (m k : Nat) : gp v x y m k 4 = ⟨winK v x y 0 m (k + 1), winK v x y 1 m (k + 1), winK v x y 2 m (k + 1), winK v x y 3 m (k + 1)⟩ := rfl
/-- Sorted, if the filter sorts. -/
def so (k : Int) (l : List Int) : List Int := if k = 4 then sortL l else l
theorem so_len (k : Int) (l : List Int) : (so k l).length = l.length := by unfold so; split <;> simp [sortL_len]
def gs (v : Vw) (x y : Int) (q : Int) : Gs := ⟨if 0 < q then so v.kind (winS v x y 0) else winS v x y 0, if 1 < q then so v.kind (winS v x y 1) else winS v x y 1, if 2 < q then so v.kind (winS v x y 2) else winS v x y 2, if 3 < q then so v.kind (winS v x y 3) else winS v x y 3⟩
theorem gs0 (v : Vw) (x y : Int) : gs v x y 0 = ⟨winS v x y 0, winS v x y 1, winS v x y 2, winS v x y 3⟩ := rfl
theorem gs1 (v : Vw) (x y : Int) : gs v x y 1 = ⟨so v.kind (winS v x y 0), winS v x y 1, winS v x y 2, winS v x y 3⟩ := rfl
theorem gs2 (v : Vw) (x y : Int) : gs v x y 2 = ⟨so v.kind (winS v x y 0), so v.kind (winS v x y 1), winS v x y 2, winS v x y 3⟩ := rfl
theorem gs3 (v : Vw) (x y : Int) : gs v x y 3 = ⟨so v.kind (winS v x y 0), so v.kind (winS v x y 1), so v.kind (winS v x y 2), winS v x y 3⟩ := rfl
theorem gs4 (v : Vw) (x y : Int) : gs v x y 4 = ⟨so v.kind (winS v x y 0), so v.kind (winS v x y 1), so v.kind (winS v x y 2), so v.kind (winS v x y 3)⟩ := rfl
/-- Found up to q. -/
def fd (v : Vw) (x y : Int) (q : Int) (c : Nat) : Int := if (c : Int) < q then selI v.kind (winS v x y c) else 0
def RkH (v : Vw) (x y : Int) : Prop := (v.kind = 4 ∨ v.kind = 7 ∨ v.kind = 8) ∧ (0 ≤ v.rad ∧ v.rad ≤ 16) ∧ (-16777216 ≤ x ∧ x ≤ 16777216 ∧ -16777216 ≤ y ∧ y ≤ 16777216) ∧ ∀ i j : Int, -v.rad ≤ i → i ≤ v.rad → -v.rad ≤ j → j ≤ v.rad → VIn v (x + i) (y + j)
theorem wk_bd {v : Vw} {x y : Int} (h : RkH v x y) {c m k : Nat} (hm : m ≤ (2 * v.rad + 1).toNat) (hk : k ≤ (2 * v.rad + 1).toNat) : (winK v x y c m k).length ≤ 1200 := by
  rw [winK_len]
  have : m * (2 * v.rad + 1).toNat ≤ 33 * 33 := Nat.mul_le_mul (by have := h.2.1; omega) (by have := h.2.1; omega)
  have := h.2.1
  omega
theorem ws_bd {v : Vw} {x y : Int} (h : RkH v x y) (c : Nat) : 0 < (winS v x y c).length ∧ (winS v x y c).length ≤ 1200 := by
  refine ⟨?_, wk_bd h (Nat.le_refl _) (Nat.zero_le _)⟩
  rw [winS_len]
  exact Nat.mul_pos (by have := h.2.1; omega) (by have := h.2.1; omega)
theorem rk_vin {v : Vw} {x y : Int} (h : RkH v x y) {m k : Nat} (hm : m < (2 * v.rad + 1).toNat) (hk : k < (2 * v.rad + 1).toNat) : VIn v (x + ((k : Int) - v.rad)) (y + ((m : Int) - v.rad)) :=
  h.2.2.2 _ _ (by omega) (by omega) (by omega) (by omega)
theorem hlf (n : Nat) : ((n : Int).tdiv 2).toNat = n / 2 ∧ 0 ≤ (n : Int).tdiv 2 ∧ (0 < n → (n : Int).tdiv 2 < n) := by
  have : (n : Int).tdiv 2 = (n : Int) / 2 := Int.tdiv_eq_ediv_of_nonneg (by omega)
  rw [this]; omega
theorem winSe (v : Vw) (x y : Int) (c : Nat) : winK v x y c (2 * v.rad + 1).toNat 0 = winS v x y c := rfl
theorem ff2 {v : Vw} {wt : List Int} {x y : Int} (hk : v.kind = 4 ∨ v.kind = 7 ∨ v.kind = 8) : rankF v x y = filF v wt x y := by rw [filF, if_neg (by omega), if_pos hk]
theorem ap_rk {i : Im} {o : Pt} {bd out : Rc} {k : Int} {ps : List Int} {x y : Nat} (hk : k = 4 ∨ k = 7 ∨ k = 8) (hi : ichkE i = 0) (h : needE k ps out bd = 0) (hs : Shw i o (needR k ps out bd)) (hx : (x : Int) < out.w) (hy : (y : Int) < out.h) :
    RkH (vwOf i o bd k ps) (out.x + x) (out.y + y) := by
  obtain ⟨h1, h2, _⟩ := nd_0 h
  have he := empty_spec.1 h2
  have hr := reach_1 h1 (by omega)
  refine ⟨hk, hr.2, by omega, fun a b a1 a2 b1 b2 => ?_⟩
  simp only [vwOf] at a1 a2 b1 b2
  exact vin_of hi h hs hr.1 hr.2 (by omega) (by omega)
def e4 : Gs := ⟨[], [], [], []⟩
def nilD : D := .v (.slice none 0 0)
def zNv (TI TV : Nat) (i : Im) (o : Pt) (bd : Rc) (k : Int) (ps : List Int) : ZC := ⟨[.dat (imD i), .dat (ptD o), .dat (rcD bd), .dat (.i k), .dat (.sl 1 (ps.map iC))], [], [], [30000, 30001, 30002, 30003, 30004], Unit, fun _ => True, fun _ => .pt 30000 0, fun _ => rkH TI TV 30000 (vwOf i o bd k ps) nilD ⟨30001, 30002, 30003, 30004⟩ e4⟩
def zqN (TI TV : Nat) (as : List AV) : Option ZQ := match as with
  | [.dat (.agg i), .dat (.agg o), .dat (.agg b), .dat (.i k), .dat (.sl _ ps)] => some ⟨zNv TI TV (unIm i) (unPt o) (unRc b) k (ps.map unI), []⟩
  | _ => none
/-- The view while its scratch is made. -/
def nvH (TI TV : Nat) (i : Im) (o : Pt) (bd : Rc) (k : Int) (ps : List Int) (q : Int) : Hp := [(21, some (true, .box TV [.dat (.i i.w), .dat (.i i.h), .dat (.sl 4 (i.p.map pxC)), .dat (.i o.x), .dat (.i o.y), .dat (.i bd.x), .dat (.i bd.y), .dat (.i bd.w), .dat (.i bd.h), .dat (.i k), .dat (.sl 1 (ps.map iC)), .dat (.i (ps.getD 0 0)), .dat (.v (.slice none 0 0)),
  if 0 < q then .vw 20000 0 0 1 else .dat (.v (.slice none 0 0)), if 1 < q then .vw 20001 0 0 1 else .dat (.v (.slice none 0 0)), if 2 < q then .vw 20002 0 0 1 else .dat (.v (.slice none 0 0)), if 3 < q then .vw 20003 0 0 1 else .dat (.v (.slice none 0 0))])),
  (20000, some (true, .arr TI 1 [])), (20001, some (true, .arr TI 1 [])), (20002, some (true, .arr TI 1 [])), (20003, some (true, .arr TI 1 []))]
theorem nvh0 (TI TV : Nat) (i : Im) (o : Pt) (bd : Rc) (k : Int) (ps : List Int) : nvH TI TV i o bd k ps 0 = [(21, some (true, .box TV [.dat (.i i.w), .dat (.i i.h), .dat (.sl 4 (i.p.map pxC)), .dat (.i o.x), .dat (.i o.y), .dat (.i bd.x), .dat (.i bd.y), .dat (.i bd.w), .dat (.i bd.h), .dat (.i k), .dat (.sl 1 (ps.map iC)), .dat (.i (ps.getD 0 0)), .dat (.v (.slice none 0 0)), .dat (.v (.slice none 0 0)), .dat (.v (.slice none 0 0)), .dat (.v (.slice none 0 0)), .dat (.v (.slice none 0 0))])), (20000, some (true, .arr TI 1 [])), (20001, some (true, .arr TI 1 [])), (20002, some (true, .arr TI 1 [])), (20003, some (true, .arr TI 1 []))] := rfl
theorem nvh1 (TI TV : Nat) (i : Im) (o : Pt) (bd : Rc) (k : Int) (ps : List Int) : nvH TI TV i o bd k ps 1 = [(21, some (true, .box TV [.dat (.i i.w), .dat (.i i.h), .dat (.sl 4 (i.p.map pxC)), .dat (.i o.x), .dat (.i o.y), .dat (.i bd.x), .dat (.i bd.y), .dat (.i bd.w), .dat (.i bd.h), .dat (.i k), .dat (.sl 1 (ps.map iC)), .dat (.i (ps.getD 0 0)), .dat (.v (.slice none 0 0)), .vw 20000 0 0 1, .dat (.v (.slice none 0 0)), .dat (.v (.slice none 0 0)), .dat (.v (.slice none 0 0))])), (20000, some (true, .arr TI 1 [])), (20001, some (true, .arr TI 1 [])), (20002, some (true, .arr TI 1 [])), (20003, some (true, .arr TI 1 []))] := rfl
theorem nvh2 (TI TV : Nat) (i : Im) (o : Pt) (bd : Rc) (k : Int) (ps : List Int) : nvH TI TV i o bd k ps 2 = [(21, some (true, .box TV [.dat (.i i.w), .dat (.i i.h), .dat (.sl 4 (i.p.map pxC)), .dat (.i o.x), .dat (.i o.y), .dat (.i bd.x), .dat (.i bd.y), .dat (.i bd.w), .dat (.i bd.h), .dat (.i k), .dat (.sl 1 (ps.map iC)), .dat (.i (ps.getD 0 0)), .dat (.v (.slice none 0 0)), .vw 20000 0 0 1, .vw 20001 0 0 1, .dat (.v (.slice none 0 0)), .dat (.v (.slice none 0 0))])), (20000, some (true, .arr TI 1 [])), (20001, some (true, .arr TI 1 [])), (20002, some (true, .arr TI 1 [])), (20003, some (true, .arr TI 1 []))] := rfl
theorem nvh3 (TI TV : Nat) (i : Im) (o : Pt) (bd : Rc) (k : Int) (ps : List Int) : nvH TI TV i o bd k ps 3 = [(21, some (true, .box TV [.dat (.i i.w), .dat (.i i.h), .dat (.sl 4 (i.p.map pxC)), .dat (.i o.x), .dat (.i o.y), .dat (.i bd.x), .dat (.i bd.y), .dat (.i bd.w), .dat (.i bd.h), .dat (.i k), .dat (.sl 1 (ps.map iC)), .dat (.i (ps.getD 0 0)), .dat (.v (.slice none 0 0)), .vw 20000 0 0 1, .vw 20001 0 0 1, .vw 20002 0 0 1, .dat (.v (.slice none 0 0))])), (20000, some (true, .arr TI 1 [])), (20001, some (true, .arr TI 1 [])), (20002, some (true, .arr TI 1 [])), (20003, some (true, .arr TI 1 []))] := rfl
theorem nvh4 (TI TV : Nat) (i : Im) (o : Pt) (bd : Rc) (k : Int) (ps : List Int) : nvH TI TV i o bd k ps 4 = [(21, some (true, .box TV [.dat (.i i.w), .dat (.i i.h), .dat (.sl 4 (i.p.map pxC)), .dat (.i o.x), .dat (.i o.y), .dat (.i bd.x), .dat (.i bd.y), .dat (.i bd.w), .dat (.i bd.h), .dat (.i k), .dat (.sl 1 (ps.map iC)), .dat (.i (ps.getD 0 0)), .dat (.v (.slice none 0 0)), .vw 20000 0 0 1, .vw 20001 0 0 1, .vw 20002 0 0 1, .vw 20003 0 0 1])), (20000, some (true, .arr TI 1 [])), (20001, some (true, .arr TI 1 [])), (20002, some (true, .arr TI 1 [])), (20003, some (true, .arr TI 1 []))] := rfl
theorem rk_sq {r : Int} (h1 : -16 ≤ r) (h2 : r ≤ 16) : -1089 ≤ (2 * r + 1) * (2 * r + 1) ∧ (2 * r + 1) * (2 * r + 1) ≤ 1089 ∧ 0 ≤ (2 * r + 1) * (2 * r + 1) := by
  have h3 : ((2 * r + 1) * (2 * r + 1)).natAbs ≤ 33 * 33 := by rw [Int.natAbs_mul]; exact Nat.mul_le_mul (by omega) (by omega)
  have h4 : 0 ≤ (2 * r + 1) * (2 * r + 1) := by
    rcases Int.le_total 0 (2 * r + 1) with h | h
    · exact Int.mul_nonneg h h
    · exact Int.mul_nonneg_of_nonpos_of_nonpos h h
  omega
theorem apr {i : Im} {o : Pt} {bd out : Rc} {k : Int} {ps : List Int} {x y : Int} (hk : k = 4 ∨ k = 7 ∨ k = 8) : appF (vwOf i o bd k ps) (wtL k (ps.getD 0 0)) out x y = clrP (rankF (vwOf i o bd k ps) (out.x + x) (out.y + y)) := by rw [appF, ← ff2 hk]
end Go.Rect

set_option linter.unusedSimpArgs false
set_option linter.unusedVariables false
namespace Go.Rect
open Go.Eng
/-! ### Orders: the plain law -/
theorem fmin_le : ∀ (l : List Int) (m : Int), l.foldl min m ≤ m ∧ ∀ a ∈ l, l.foldl min m ≤ a
  | [], m => ⟨Int.le_refl _, by simp⟩
  | b :: l, m => by
    have ih := fmin_le l (min m b)
    simp only [List.foldl_cons]
    refine ⟨by omega, fun a ha => ?_⟩
    simp only [List.mem_cons] at ha
    rcases ha with rfl | ha
    · omega
    · exact ih.2 a ha
theorem fmax_ge : ∀ (l : List Int) (m : Int), m ≤ l.foldl max m ∧ ∀ a ∈ l, a ≤ l.foldl max m
  | [], m => ⟨Int.le_refl _, by simp⟩
  | b :: l, m => by
    have ih := fmax_ge l (max m b)
    simp only [List.foldl_cons]
    refine ⟨by omega, fun a ha => ?_⟩
    simp only [List.mem_cons] at ha
    rcases ha with rfl | ha
    · omega
    · exact ih.2 a ha
theorem fmin_mem : ∀ (l : List Int) (m : Int), l.foldl min m = m ∨ l.foldl min m ∈ l
  | [], m => .inl rfl
  | b :: l, m => by
    simp only [List.foldl_cons, List.mem_cons]
    rcases fmin_mem l (min m b) with h | h
    · rcases Int.le_total m b with g | g
      · rw [h]; exact .inl (by omega)
      · rw [h]; exact .inr (.inl (by omega))
    · exact .inr (.inr h)
theorem fmax_mem : ∀ (l : List Int) (m : Int), l.foldl max m = m ∨ l.foldl max m ∈ l
  | [], m => .inl rfl
  | b :: l, m => by
    simp only [List.foldl_cons, List.mem_cons]
    rcases fmax_mem l (max m b) with h | h
    · rcases Int.le_total m b with g | g
      · rw [h]; exact .inr (.inl (by omega))
      · rw [h]; exact .inl (by omega)
    · exact .inr (.inr h)
theorem getD_memI {l : List Int} {k : Nat} (h : k < l.length) : l.getD k 0 ∈ l := by
  rw [List.getD_eq_getElem?_getD, List.getElem?_eq_getElem h]; exact List.getElem_mem h
theorem minO_le {l : List Int} {a : Int} (h : a ∈ l) : minO l ≤ a := (fmin_le l _).2 a h
theorem le_maxO {l : List Int} {a : Int} (h : a ∈ l) : a ≤ maxO l := (fmax_ge l _).2 a h
theorem minO_mem {l : List Int} (h : 0 < l.length) : minO l ∈ l := by
  rcases fmin_mem l (l.getD 0 0) with e | e
  · unfold minO; rw [e]; exact getD_memI h
  · exact e
theorem maxO_mem {l : List Int} (h : 0 < l.length) : maxO l ∈ l := by
  rcases fmax_mem l (l.getD 0 0) with e | e
  · unfold maxO; rw [e]; exact getD_memI h
  · exact e
theorem sel_mem (k : Int) {l : List Int} (h : 0 < l.length) : selI k l ∈ l := by
  unfold selI
  split
  · have : (sortL l).getD (l.length / 2) 0 ∈ sortL l := getD_memI (by rw [sortL_len]; omega)
    unfold sortL at this ⊢
    exact List.mem_mergeSort.1 this
  · split
    · exact maxO_mem h
    · exact minO_mem h
theorem win_mem {v : Vw} {x y : Int} {c : Nat} {a : Int} (h : a ∈ winS v x y c) : ∃ i j : Int, (-v.rad ≤ i ∧ i ≤ v.rad) ∧ (-v.rad ≤ j ∧ j ≤ v.rad) ∧ a = chn c (pixF v (x + i) (y + j)) := by
  simp only [winS, winK, winR, List.range_zero, List.map_nil, List.append_nil, List.mem_flatMap, List.mem_range, List.mem_map] at h
  obtain ⟨j, hj, i, hi, rfl⟩ := h
  exact ⟨(i : Int) - v.rad, (j : Int) - v.rad, by omega, by omega, rfl⟩
theorem win_ctr {v : Vw} {x y : Int} (c : Nat) (h : 0 ≤ v.rad) : chn c (pixF v x y) ∈ winS v x y c := by
  simp only [winS, winK, winR, List.range_zero, List.map_nil, List.append_nil, List.mem_flatMap, List.mem_range, List.mem_map]
  refine ⟨v.rad.toNat, by omega, v.rad.toNat, by omega, ?_⟩
  have : ((v.rad.toNat : Nat) : Int) - v.rad = 0 := by omega
  rw [this, Int.add_zero, Int.add_zero]
def belowB (p q : Px) : Bool := decide (p.r ≤ q.r) && decide (p.g ≤ q.g) && decide (p.b ≤ q.b) && decide (p.a ≤ q.a)
theorem below_T {p q : Px} : belowB p q = true ↔ p.r ≤ q.r ∧ p.g ≤ q.g ∧ p.b ≤ q.b ∧ p.a ≤ q.a := by simp [belowB, and_assoc]
/-- An image that is not empty, none of its pixels clear. -/
structure OkI (i : Im) (r : Int) : Prop where
  chk : ichkE i = 0
  ne : ¬ i.w = 0
  r0 : 0 ≤ r ∧ r ≤ 4
  al : ∀ k, k < i.p.length → ¬ (i.p.getD k zP).a = 0
section
variable {i : Im} {r : Int}
theorem fk_r {k : Int} (hr : 0 ≤ r ∧ r ≤ 4) (hk : k = 1 ∨ k = 4 ∨ k = 7 ∨ k = 8) : fchkE k [r] = 0 := by
  have hs : spL k = [⟨0, if k = 4 then 4 else 16⟩] := by
    rcases hk with rfl | rfl | rfl | rfl <;> rfl
  rw [fchkE, if_neg (by omega), hs, if_neg (by simp), if_pos]
  simp only [okPs, List.length_cons, List.length_nil, List.range_succ, List.range_zero, List.nil_append, List.all_cons, List.all_nil, Bool.and_true, List.getD_cons_zero]
  refine in_T.2 ⟨hr.1, ?_⟩
  simp only
  split <;> omega
theorem wh_need {k : Int} (hi : ichkE i = 0) (hw : ¬ i.w = 0) (hf : fchkE k [r] = 0) : needE k [r] ⟨0, 0, i.w, i.h⟩ ⟨0, 0, i.w, i.h⟩ = 0 := by
  obtain ⟨hz, hh, _⟩ := ichk0 hi
  unfold Z0 at hz
  have he : emptyB ⟨0, 0, i.w, i.h⟩ = false := empty_spec.2 (by simp only; omega)
  have hv : validB ⟨0, 0, i.w, i.h⟩ = true := valid_spec.2 (by simp only; omega)
  have hwi : withinB ⟨0, 0, i.w, i.h⟩ ⟨0, 0, i.w, i.h⟩ = true := within_spec.2 (.inr ⟨he, by simp only; omega⟩)
  rw [needE, if_neg (by omega), badB, he, hv, hwi]; rfl
theorem wh_show {k : Int} (hi : ichkE i = 0) (hw : ¬ i.w = 0) (hf : fchkE k [r] = 0) : showB i ⟨0, 0⟩ (needR k [r] ⟨0, 0, i.w, i.h⟩ ⟨0, 0, i.w, i.h⟩) = true := by
  have hn := wh_need hi hw hf
  obtain ⟨hz, hh, _⟩ := ichk0 hi
  unfold Z0 at hz
  have hR := nd_R hn
  have h0 := (nd_0 hn).2.2.1
  rcases meet_cases (growR ⟨0, 0, i.w, i.h⟩ (reachI k [r])) ⟨0, 0, i.w, i.h⟩ with ⟨e, h⟩ | ⟨h1, h2, h3, h4, h5, h6, h7⟩
  · rw [hR, e]
    simp [showB, zR]; omega
  · rw [hR]
    simp only [showB, Bool.and_eq_true, decide_eq_true_eq]
    simp only at h4 h5 h6 h7
    omega
theorem wh_R {k : Int} (hi : ichkE i = 0) (hw : ¬ i.w = 0) (hf : fchkE k [r] = 0) : whlE i k [r] = 0 ∧ whlR i k [r] = ⟨i.w, i.h, tabP (nn i.w i.h) (gP i.w.toNat (appF (vwOf i ⟨0, 0⟩ ⟨0, 0, i.w, i.h⟩ k [r]) (wtL k r) ⟨0, 0, i.w, i.h⟩))⟩ := by
  have h1 := wh4 hi hf hw
  have h2 := ap4 hi (wh_need hi hw hf) (wh_show hi hw hf)
  exact ⟨h1.2.trans h2.2, h1.1.trans h2.1⟩
theorem wh_len {k : Int} (hi : ichkE i = 0) (hw : ¬ i.w = 0) (hf : fchkE k [r] = 0) : (whlR i k [r]).p.length = i.p.length := by
  rw [(wh_R hi hw hf).2]; simp only [tabP_len]; exact (ichk0 hi).2.2.1.symm
theorem tabP_get {n k : Nat} {f : Nat → Px} (h : k < n) : (tabP n f).getD k zP = f k := by
  rw [List.getD_eq_getElem?_getD, tabP, List.getElem?_map, List.getElem?_range h]; rfl
/-- The view's pixel is the image's. -/
theorem ctr_px {k : Int} {ps : List Int} (hi : ichkE i = 0) {j : Nat} (hj : j < i.p.length) : pixF (vwOf i ⟨0, 0⟩ ⟨0, 0, i.w, i.h⟩ k ps) (((j % i.w.toNat : Nat) : Int)) (((j / i.w.toNat : Nat) : Int)) = i.p.getD j zP := by
  obtain ⟨hz, hh, hl, _⟩ := ichk0 hi
  unfold Z0 at hz
  rw [hl, nn] at hj
  have hw : 0 < i.w.toNat := by
    rcases Nat.eq_zero_or_pos i.w.toNat with e | e
    · rw [e] at hj; omega
    · exact e
  have h1 := Nat.mod_lt j hw
  have h2 : j / i.w.toNat < i.h.toNat := Nat.div_lt_of_lt_mul hj
  have h3 := Nat.div_add_mod j i.w.toNat
  simp only [pixF, vwOf, cxI, cyI, Int.zero_add, Int.sub_zero]
  generalize j % i.w.toNat = m at *
  generalize j / i.w.toNat = q at *
  have ex : min (max ((m : Nat) : Int) 0) (i.w - 1) = (m : Int) := by omega
  have ey : min (max ((q : Nat) : Int) 0) (i.h - 1) = (q : Int) := by omega
  rw [ex, ey]
  congr 1
  have e4 : ((i.w.toNat * q : Nat) : Int) = (q : Int) * i.w := by
    rw [Int.natCast_mul, Int.toNat_of_nonneg hz.1, Int.mul_comm]
  rw [← e4]
  omega
theorem px_in {v : Vw} {x y : Int} (h : VIn v x y) : ∃ k, k < v.src.p.length ∧ pixF v x y = v.src.p.getD k zP := ⟨_, (vin_ix h).2.2.1, rfl⟩
/-- The three filters: a pixel of the result. -/
theorem rk_px {k : Int} (h : OkI i r) (hk : k = 4 ∨ k = 7 ∨ k = 8) {j : Nat} (hj : j < i.p.length) :
    (whlR i k [r]).p.getD j zP = rankF (vwOf i ⟨0, 0⟩ ⟨0, 0, i.w, i.h⟩ k [r]) (((j % i.w.toNat : Nat) : Int)) (((j / i.w.toNat : Nat) : Int)) ∧ RkH (vwOf i ⟨0, 0⟩ ⟨0, 0, i.w, i.h⟩ k [r]) (((j % i.w.toNat : Nat) : Int)) (((j / i.w.toNat : Nat) : Int)) := by
  have hf := fk_r (k := k) h.r0 (by omega)
  obtain ⟨hz, hh, hl, _⟩ := ichk0 h.chk
  have hn := wh_need h.chk h.ne hf
  have hs := shw (wh_show h.chk h.ne hf)
  have hj2 := hj
  rw [hl, nn] at hj2
  have hw : 0 < i.w.toNat := by unfold Z0 at hz; have := h.ne; omega
  have h1 := Nat.mod_lt j hw
  have h2 : j / i.w.toNat < i.h.toNat := Nat.div_lt_of_lt_mul hj2
  unfold Z0 at hz
  have rk := ap_rk (x := j % i.w.toNat) (y := j / i.w.toNat) hk h.chk hn hs (by simp only; omega) (by simp only; omega)
  simp only [Int.zero_add] at rk
  refine ⟨?_, rk⟩
  rw [(wh_R h.chk h.ne hf).2]
  simp only
  rw [tabP_get (by rw [← hl]; exact hj), gP]
  have e := apr (i := i) (o := ⟨0, 0⟩) (bd := ⟨0, 0, i.w, i.h⟩) (out := ⟨0, 0, i.w, i.h⟩) (ps := [r]) (x := ((j % i.w.toNat : Nat) : Int)) (y := ((j / i.w.toNat : Nat) : Int)) hk
  simp only [List.getD_cons_zero, Int.zero_add] at e
  rw [e, clrP, if_neg]
  -- its alpha is one of the window's
  have hm := sel_mem k (ws_bd rk 3).1
  obtain ⟨a, b, ha, hb, he⟩ := win_mem hm
  obtain ⟨q, q1, q2⟩ := px_in (rk.2.2.2 a b ha.1 ha.2 hb.1 hb.2)
  intro h0
  have : (rankF (vwOf i ⟨0, 0⟩ ⟨0, 0, i.w, i.h⟩ k [r]) (((j % i.w.toNat : Nat) : Int)) (((j / i.w.toNat : Nat) : Int))).a = selI k (winS (vwOf i ⟨0, 0⟩ ⟨0, 0, i.w, i.h⟩ k [r]) (((j % i.w.toNat : Nat) : Int)) (((j / i.w.toNat : Nat) : Int)) 3) := rfl
  rw [this, he, q2] at h0
  exact h.al q q1 h0
theorem win_k (k k' : Int) (ps : List Int) (x y : Int) (c : Nat) : winS (vwOf i ⟨0, 0⟩ ⟨0, 0, i.w, i.h⟩ k ps) x y c = winS (vwOf i ⟨0, 0⟩ ⟨0, 0, i.w, i.h⟩ k' ps) x y c := rfl
theorem ord4 (h : OkI i r) {j : Nat} (hj : j < i.p.length) :
    belowB ((whlR i 8 [r]).p.getD j zP) (i.p.getD j zP) = true ∧ belowB (i.p.getD j zP) ((whlR i 7 [r]).p.getD j zP) = true ∧
    belowB ((whlR i 8 [r]).p.getD j zP) ((whlR i 4 [r]).p.getD j zP) = true ∧ belowB ((whlR i 4 [r]).p.getD j zP) ((whlR i 7 [r]).p.getD j zP) = true := by
  obtain ⟨e8, r8⟩ := rk_px h (k := 8) (by omega) hj
  obtain ⟨e7, r7⟩ := rk_px h (k := 7) (by omega) hj
  obtain ⟨e4', r4⟩ := rk_px h (k := 4) (by omega) hj
  have ec := ctr_px (k := 8) (ps := [r]) h.chk hj
  generalize hx : ((j % i.w.toNat : Nat) : Int) = x at *
  generalize hy : ((j / i.w.toNat : Nat) : Int) = y at *
  have key : ∀ c, minO (winS (vwOf i ⟨0, 0⟩ ⟨0, 0, i.w, i.h⟩ 8 [r]) x y c) ≤ chn c (i.p.getD j zP) ∧ chn c (i.p.getD j zP) ≤ maxO (winS (vwOf i ⟨0, 0⟩ ⟨0, 0, i.w, i.h⟩ 8 [r]) x y c) ∧
      minO (winS (vwOf i ⟨0, 0⟩ ⟨0, 0, i.w, i.h⟩ 8 [r]) x y c) ≤ selI 4 (winS (vwOf i ⟨0, 0⟩ ⟨0, 0, i.w, i.h⟩ 8 [r]) x y c) ∧ selI 4 (winS (vwOf i ⟨0, 0⟩ ⟨0, 0, i.w, i.h⟩ 8 [r]) x y c) ≤ maxO (winS (vwOf i ⟨0, 0⟩ ⟨0, 0, i.w, i.h⟩ 8 [r]) x y c) := by
    intro c
    have hc := win_ctr (v := vwOf i ⟨0, 0⟩ ⟨0, 0, i.w, i.h⟩ 8 [r]) (x := x) (y := y) c r8.2.1.1
    rw [ec] at hc
    have hm := sel_mem 4 (ws_bd r8 c).1
    exact ⟨minO_le hc, le_maxO hc, minO_le hm, le_maxO hm⟩
  have k0 := key 0; have k1 := key 1; have k2 := key 2; have k3 := key 3
  simp only [below_T]
  rw [e8, e7, e4']
  simp only [rankF, win_k 7 8, win_k 4 8]
  have s8 : ∀ l, selI (vwOf i ⟨0, 0⟩ ⟨0, 0, i.w, i.h⟩ 8 [r]).kind l = minO l := fun l => rfl
  have s7 : ∀ l, selI (vwOf i ⟨0, 0⟩ ⟨0, 0, i.w, i.h⟩ 7 [r]).kind l = maxO l := fun l => rfl
  have s4 : ∀ l, selI (vwOf i ⟨0, 0⟩ ⟨0, 0, i.w, i.h⟩ 4 [r]).kind l = selI 4 l := fun l => rfl
  simp only [s8, s7, s4]
  simp only [chn] at k0 k1 k2 k3
  omega
end
end Go.Rect

set_option linter.unusedSimpArgs false
set_option linter.unusedVariables false
namespace Go.Rect
open Go.Eng
section
variable {i : Im} {r : Int}
theorem mt_i (hi : ichkE i = 0) (hw : i.w = 0) : i = ⟨0, 0, []⟩ := by
  obtain ⟨hz, hh, hl, _⟩ := ichk0 hi
  have h1 := hh.1 hw
  have h2 : i.p = [] := by
    rw [nn, hw] at hl
    simpa using hl
  cases i; simp only at hw h1 h2; rw [hw, h1, h2]
theorem oE {k : Int} (hi : ichkE i = 0) (hr : 0 ≤ r ∧ r ≤ 4) (hk : k = 1 ∨ k = 4 ∨ k = 7 ∨ k = 8) : whlE i k [r] = 0 ∧ (whlR i k [r]).p.length = i.p.length := by
  have hf := fk_r hr hk
  by_cases hw : i.w = 0
  · have h3 := wh3 hi hf hw
    rw [h3.1, h3.2, mt_i hi hw]
    exact ⟨rfl, rfl⟩
  · exact ⟨(wh_R hi hw hf).1, wh_len hi hw hf⟩
theorem ok_of (hi : ichkE i = 0) (hr : 0 ≤ r ∧ r ≤ 4) (ha : ∀ k, k < i.p.length → ¬ (i.p.getD k zP).a = 0) {j : Nat} (hj : j < i.p.length) : OkI i r := by
  refine ⟨hi, fun hw => ?_, hr, ha⟩
  rw [mt_i hi hw] at hj; simp at hj
theorem win_0 {v : Vw} (hv : v.rad = 0) (x y : Int) (c : Nat) : winS v x y c = [chn c (pixF v x y)] := by
  have e : (2 * v.rad + 1).toNat = 1 := by omega
  simp [winS, winK, winR, e, hv, List.range_succ]
theorem sel_1 (k a : Int) : selI k [a] = a := by
  unfold selI
  split
  · simp [sortL, List.mergeSort]
  · split <;> simp [maxO, minO]
theorem ch4 (p : Px) : (⟨chn 0 p, chn 1 p, chn 2 p, chn 3 p⟩ : Px) = p := rfl
theorem im_eq {R : Im} (h1 : R.w = i.w) (h2 : R.h = i.h) (h3 : R.p.length = i.p.length) (h : ∀ j, j < i.p.length → R.p.getD j zP = i.p.getD j zP) : R = i := by
  obtain ⟨w, h', p⟩ := R
  obtain ⟨w2, h2', p2⟩ := i
  simp only at h1 h2 h3 h
  subst h1 h2
  have e1 := filP_get0 p
  have e2 := filP_get0 p2
  rw [h3] at e1
  congr 1
  exact e1.trans ((tabP_ext h).trans e2.symm)
theorem oS_rk {k : Int} (h : OkI i 0) (hk : k = 4 ∨ k = 7 ∨ k = 8) : whlR i k [0] = i := by
  have hf := fk_r (k := k) h.r0 (by omega)
  have hR := (wh_R h.chk h.ne hf).2
  refine im_eq (by rw [hR]) (by rw [hR]) (wh_len h.chk h.ne hf) fun j hj => ?_
  rw [(rk_px h hk hj).1, ← ctr_px (k := k) (ps := [0]) h.chk hj]
  have hv : (vwOf i ⟨0, 0⟩ ⟨0, 0, i.w, i.h⟩ k [0]).rad = 0 := rfl
  simp only [rankF, win_0 hv, sel_1, ch4]
theorem dv_1 {a c : Int} (h : 0 < a) : divI (a * c) a = c := by
  unfold divI
  have : 2 * (a * c) + a = a * (2 * c + 1) := by rw [Int.mul_add, Int.mul_one, Int.mul_left_comm]
  rw [this, show 2 * a = a * 2 by omega, Int.mul_ediv_mul_of_pos _ _ h]
  omega
theorem mean1 {p : Px} (hv : validP p = true) (ha : ¬ p.a = 0) : meanS (addS zS p 1) = p := by
  have hb := vP_bd hv
  simp only [addS, zS, Int.zero_add, Int.one_mul]
  have e1 : divI p.a 1 = p.a := by unfold divI; omega
  rw [meanS, if_neg ha]
  simp only [e1]
  rw [if_neg ha, dv_1 (by omega), dv_1 (by omega), dv_1 (by omega)]
theorem sq_0 {v : Vw} (hv : v.rad = 0) (x y : Int) : sqS v [1] x y = addS zS (pixF v x y) 1 := by
  have e : (2 * v.rad + 1).toNat = 1 := by omega
  simp [sqS, sqK, sqRow, e, hv, List.range_succ]
theorem oS_bx (h : OkI i 0) : whlR i 1 [0] = i := by
  have hf := fk_r (k := 1) h.r0 (by omega)
  have hR := (wh_R h.chk h.ne hf).2
  refine im_eq (by rw [hR]) (by rw [hR]) (wh_len h.chk h.ne hf) fun j hj => ?_
  have hl := (ichk0 h.chk).2.2
  rw [hR]
  simp only
  rw [tabP_get (by rw [← hl.1]; exact hj), gP, appF]
  have ec := ctr_px (k := 1) (ps := [0]) h.chk hj
  have hv : (vwOf i ⟨0, 0⟩ ⟨0, 0, i.w, i.h⟩ 1 [0]).rad = 0 := rfl
  have hw : wtL 1 0 = [1] := by decide
  rw [← ff1 (v := vwOf i ⟨0, 0⟩ ⟨0, 0, i.w, i.h⟩ 1 [0]) (.inl rfl), hw, sq_0 hv]
  simp only [Int.zero_add]
  rw [ec, mean1 (hl.2 j hj) (h.al j hj), clrP, if_neg (h.al j hj)]
theorem oS {k : Int} (hi : ichkE i = 0) (ha : ∀ k, k < i.p.length → ¬ (i.p.getD k zP).a = 0) (hk : k = 1 ∨ k = 4 ∨ k = 7 ∨ k = 8) : sameI (whlR i k [0]) i = true := by
  simp only [sameI, decide_eq_true_eq]
  by_cases hw : i.w = 0
  · rw [(wh3 hi (fk_r (r := 0) (by omega) hk) hw).1, mt_i hi hw]
  · have h : OkI i 0 := ⟨hi, hw, by omega, ha⟩
    by_cases h1 : k = 1
    · subst h1; exact oS_bx h
    · exact oS_rk h (by omega)
theorem al_1 {k : Nat} (h : ∀ j, j < k → ¬ (i.p.getD j zP).a = 0) (hc : ¬ (i.p.getD k zP).a = 0) : ∀ j, j < k + 1 → ¬ (i.p.getD j zP).a = 0 := fun j hj => by
  by_cases e : j = k
  · subst e; exact hc
  · exact h j (by omega)
end
end Go.Rect

