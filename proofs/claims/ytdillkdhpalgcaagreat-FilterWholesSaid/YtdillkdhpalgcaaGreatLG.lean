import Derived.Test.YtdillkdhpalgcaaGreatLF
import Derived.Test.YtdillkdhpalgcaaGreatEG
set_option linter.unusedSimpArgs false
set_option linter.unusedVariables false
set_option linter.unusedSimpArgs false
set_option linter.unusedVariables false
namespace Go.Rect
open Go.Eng
theorem winR_succ (v : Vw) (x y : Int) (c j k : Nat) : winR v x y c j (k + 1) = winR v x y c j k ++ [chn c (pixF v (x + ((k : Int) - v.rad)) (y + ((j : Int) - v.rad)))] := by simp [winR, List.range_succ]
theorem winK_succ (v : Vw) (x y : Int) (c m k : Nat) : winK v x y c m (k + 1) = winK v x y c m k ++ [chn c (pixF v (x + ((k : Int) - v.rad)) (y + ((m : Int) - v.rad)))] := by rw [winK, winR_succ, ← List.append_assoc]; rfl
theorem winK_over (v : Vw) (x y : Int) (c m k : Nat) (h : k = (2 * v.rad + 1).toNat) : winK v x y c m k = winK v x y c (m + 1) 0 := by
  subst h
  simp [winK, List.range_succ, winR]
theorem winK_len (v : Vw) (x y : Int) (c : Nat) : ∀ (m k : Nat), (winK v x y c m k).length = m * (2 * v.rad + 1).toNat + k
  | 0, k => by simp [winK, winR]
  | m + 1, k => by
    have : (winK v x y c (m + 1) k).length = (winK v x y c (m + 1) 0).length + k := by simp [winK, winR]
    rw [this, ← winK_over v x y c m _ rfl, winK_len v x y c m, Nat.add_mul]; omega
theorem winS_len (v : Vw) (x y : Int) (c : Nat) : (winS v x y c).length = (2 * v.rad + 1).toNat * (2 * v.rad + 1).toNat := by rw [winS, winK_len]; rfl
theorem sortL_len (l : List Int) : (sortL l).length = l.length := by simp [sortL]
theorem mx1 {l : List Int} (h : 0 < l.length) : l.getD 0 0 = (l.take 1).foldl max (l.getD 0 0) := by
  cases l with
  | nil => simp at h
  | cons a l => simp
theorem mx2 {l : List Int} {k : Nat} (h : (k : Int) < (l.length : Int)) : max ((l.take k).foldl max (l.getD 0 0)) (l.getD k 0) = (l.take (k + 1)).foldl max (l.getD 0 0) := by
  rw [take_succ' (z := (0 : Int)) h, List.foldl_append]; rfl
theorem mx3 {l : List Int} {k : Nat} (h : (l.length : Int) ≤ (k : Int)) : (l.take k).foldl max (l.getD 0 0) = maxO l := by rw [List.take_of_length_le (by omega)]; rfl
theorem mi1 {l : List Int} (h : 0 < l.length) : l.getD 0 0 = (l.take 1).foldl min (l.getD 0 0) := by
  cases l with
  | nil => simp at h
  | cons a l => simp
theorem mi2 {l : List Int} {k : Nat} (h : (k : Int) < (l.length : Int)) : min ((l.take k).foldl min (l.getD 0 0)) (l.getD k 0) = (l.take (k + 1)).foldl min (l.getD 0 0) := by
  rw [take_succ' (z := (0 : Int)) h, List.foldl_append]; rfl
theorem mi3 {l : List Int} {k : Nat} (h : (l.length : Int) ≤ (k : Int)) : (l.take k).foldl min (l.getD 0 0) = minO l := by rw [List.take_of_length_le (by omega)]; rfl
structure Gs where
  a : List Int
  b : List Int
  c : List Int
  d : List Int
structure Nm where
  a : Nat
  b : Nat
  c : Nat
  d : Nat
def rkC (v : Vw) (wD : D) (n : Nm) (g : Gs) : List AV := [.dat (.i v.src.w), .dat (.i v.src.h), .dat (.sl 4 (v.src.p.map pxC)), .dat (.i v.o.x), .dat (.i v.o.y), .dat (.i v.bd.x), .dat (.i v.bd.y), .dat (.i v.bd.w), .dat (.i v.bd.h), .dat (.i v.kind), .dat (.sl 1 (v.ps.map iC)), .dat (.i v.rad), .dat wD,
  .vw n.a 0 g.a.length 1, .vw n.b 0 g.b.length 1, .vw n.c 0 g.c.length 1, .vw n.d 0 g.d.length 1]
def rkH (TI TV b : Nat) (v : Vw) (wD : D) (n : Nm) (g : Gs) : Hp := [(b, some (true, .box TV (rkC v wD n g))), (n.a, some (true, .arr TI 1 (g.a.map iC))), (n.b, some (true, .arr TI 1 (g.b.map iC))), (n.c, some (true, .arr TI 1 (g.c.map iC))), (n.d, some (true, .arr TI 1 (g.d.map iC)))]
def zRk (TI TV : Nat) (v : Vw) (wD : D) (g : Gs) (x y : Int) (q : Gs → Prop) (p : Px) : ZC := ⟨[.pt 30000 0, .dat (.i x), .dat (.i y)], rkH TI TV 30000 v wD ⟨30001, 30002, 30003, 30004⟩ g, [30000], [31001, 31002, 31003, 31004], Gs, q, fun _ => .dat (pxD p), fun g' => rkH TI TV 30000 v wD ⟨31001, 31002, 31003, 31004⟩ g'⟩
def rkOf (h : Hp) (nm : Nat) : Option (Vw × D × Nm × Gs) := match geth h nm with
  | some (_, .box _ [.dat (.i w), .dat (.i hh), .dat (.sl _ p), .dat (.i ox), .dat (.i oy), .dat (.i bx), .dat (.i by'), .dat (.i bw), .dat (.i bh), .dat (.i k), .dat (.sl _ ps), .dat (.i r), .dat wD, .vw n1 _ _ _, .vw n2 _ _ _, .vw n3 _ _ _, .vw n4 _ _ _]) =>
    match geth h n1, geth h n2, geth h n3, geth h n4 with
    | some (_, .arr _ _ l1), some (_, .arr _ _ l2), some (_, .arr _ _ l3), some (_, .arr _ _ l4) => some (⟨⟨w, hh, p.map unPx⟩, ⟨ox, oy⟩, ⟨bx, by', bw, bh⟩, k, ps.map unI, r⟩, wD, ⟨n1, n2, n3, n4⟩, ⟨l1.map unI, l2.map unI, l3.map unI, l4.map unI⟩)
    | _, _, _, _ => none
  | _ => none
def nmR (nm : Nat) (n : Nm) : List (Nat × Nat) := [(30000, nm), (30001, n.a), (30002, n.b), (30003, n.c), (30004, n.d)]
def zq (TI TV : Nat) (q : Vw → Gs → Gs → Prop) (F : Vw → Int → Int → Px) (as : List AV) (h : Hp) : Option ZQ := match as with
  | [.pt nm _, .dat (.i x), .dat (.i y)] => match rkOf h nm with
    | some (v, wD, n, g) => some ⟨zRk TI TV v wD g x y (q v g) (F v x y), nmR nm n⟩
    | none => none
  | _ => none
theorem gsEta (g : Gs) : (⟨g.a, g.b, g.c, g.d⟩ : Gs) = g := rfl
end Go.Rect

set_option linter.unusedSimpArgs false
set_option linter.unusedVariables false
namespace Go.Rect
open Go.Eng
theorem toN2i : Int.toNat 2 = 2 := rfl
theorem toN3i : Int.toNat 3 = 3 := rfl
def gz (g : Gs) (k : Int) : Gs := ⟨if 0 < k then [] else g.a, if 1 < k then [] else g.b, if 2 < k then [] else g.c, if 3 < k then [] else g.d⟩
theorem gz0 (g : Gs) : gz g 0 = g := rfl
theorem gz1 (g : Gs) : gz g 1 = ⟨[], g.b, g.c, g.d⟩ := rfl
theorem gz2 (g : Gs) : gz g 2 = ⟨[], [], g.c, g.d⟩ := rfl
theorem gz3 (g : Gs) : gz g 3 = ⟨[], [], [], g.d⟩ := rfl
theorem gz4 (g : Gs) : gz g 4 = ⟨[], [], [], []⟩ := rfl
def gw (v : Vw) (x y : Int) (m k : Nat) : Gs := ⟨winK v x y 0 m k, winK v x y 1 m k, winK v x y 2 m k, winK v x y 3 m k⟩
def gp (v : Vw) (x y : Int) (m k : Nat) (q : Int) : Gs := ⟨if 0 < q then winK v x y 0 m (k + 1) else winK v x y 0 m k, if 1 < q then winK v x y 1 m (k + 1) else winK v x y 1 m k, if 2 < q then winK v x y 2 m (k + 1) else winK v x y 2 m k, if 3 < q then winK v x y 3 m (k + 1) else winK v x y 3 m k⟩
theorem gp0 (v : Vw) (x y : Int) (m k : Nat) : gp v x y m k 0 = ⟨winK v x y 0 m k, winK v x y 1 m k, winK v x y 2 m k, winK v x y 3 m k⟩ := rfl
theorem gp1 (v : Vw) (x y : Int) (m k : Nat) : gp v x y m k 1 = ⟨winK v x y 0 m (k + 1), winK v x y 1 m k, winK v x y 2 m k, winK v x y 3 m k⟩ := rfl
theorem gp2 (v : Vw) (x y : Int) (m k : Nat) : gp v x y m k 2 = ⟨winK v x y 0 m (k + 1), winK v x y 1 m (k + 1), winK v x y 2 m k, winK v x y 3 m k⟩ := rfl
theorem gp3 (v : Vw) (x y : Int) (m k : Nat) : gp v x y m k 3 = ⟨winK v x y 0 m (k + 1), winK v x y 1 m (k + 1), winK v x y 2 m (k + 1), winK v x y 3 m k⟩ := rfl
theorem gp4 (v : Vw) (x y : Int) (m k : Nat) : gp v x y m k 4 = ⟨winK v x y 0 m (k + 1), winK v x y 1 m (k + 1), winK v x y 2 m (k + 1), winK v x y 3 m (k + 1)⟩ := rfl
def so (k : Int) (l : List Int) : List Int := if k = 4 then sortL l else l
theorem so_len (k : Int) (l : List Int) : (so k l).length = l.length := by unfold so; split <;> simp [sortL_len]
def gs (v : Vw) (x y : Int) (q : Int) : Gs := ⟨if 0 < q then so v.kind (winS v x y 0) else winS v x y 0, if 1 < q then so v.kind (winS v x y 1) else winS v x y 1, if 2 < q then so v.kind (winS v x y 2) else winS v x y 2, if 3 < q then so v.kind (winS v x y 3) else winS v x y 3⟩
theorem gs0 (v : Vw) (x y : Int) : gs v x y 0 = ⟨winS v x y 0, winS v x y 1, winS v x y 2, winS v x y 3⟩ := rfl
theorem gs1 (v : Vw) (x y : Int) : gs v x y 1 = ⟨so v.kind (winS v x y 0), winS v x y 1, winS v x y 2, winS v x y 3⟩ := rfl
theorem gs2 (v : Vw) (x y : Int) : gs v x y 2 = ⟨so v.kind (winS v x y 0), so v.kind (winS v x y 1), winS v x y 2, winS v x y 3⟩ := rfl
theorem gs3 (v : Vw) (x y : Int) : gs v x y 3 = ⟨so v.kind (winS v x y 0), so v.kind (winS v x y 1), so v.kind (winS v x y 2), winS v x y 3⟩ := rfl
theorem gs4 (v : Vw) (x y : Int) : gs v x y 4 = ⟨so v.kind (winS v x y 0), so v.kind (winS v x y 1), so v.kind (winS v x y 2), so v.kind (winS v x y 3)⟩ := rfl
def fd (v : Vw) (x y : Int) (q : Int) (c : Nat) : Int := if (c : Int) < q then selI v.kind (winS v x y c) else 0
def RkH (v : Vw) (x y : Int) : Prop := (v.kind = 4 ∨ v.kind = 7 ∨ v.kind = 8) ∧ (0 ≤ v.rad ∧ v.rad ≤ 16) ∧ (-16777216 ≤ x ∧ x ≤ 16777216 ∧ -16777216 ≤ y ∧ y ≤ 16777216) ∧ ∀ i j : Int, -v.rad ≤ i → i ≤ v.rad → -v.rad ≤ j → j ≤ v.rad → VIn v (x + i) (y + j)
theorem wk_bd {v : Vw} {x y : Int} (h : RkH v x y) {c m k : Nat} (hm : m ≤ (2 * v.rad + 1).toNat) (hk : k ≤ (2 * v.rad + 1).toNat) : (winK v x y c m k).length ≤ 1200 := by
  rw [winK_len]
  have : m * (2 * v.rad + 1).toNat ≤ 33 * 33 := Nat.mul_le_mul (by have := h.2.1; omega) (by have := h.2.1; omega)
  have := h.2.1
  omega
theorem ws_bd {v : Vw} {x y : Int} (h : RkH v x y) (c : Nat) : 0 < (winS v x y c).length ∧ (winS v x y c).length ≤ 1200 := by
  refine ⟨?_, wk_bd h (Nat.le_refl _) (Nat.zero_le _)⟩
  rw [winS_len]
  exact Nat.mul_pos (by have := h.2.1; omega) (by have := h.2.1; omega)
theorem rk_vin {v : Vw} {x y : Int} (h : RkH v x y) {m k : Nat} (hm : m < (2 * v.rad + 1).toNat) (hk : k < (2 * v.rad + 1).toNat) : VIn v (x + ((k : Int) - v.rad)) (y + ((m : Int) - v.rad)) :=
  h.2.2.2 _ _ (by omega) (by omega) (by omega) (by omega)
theorem hlf (n : Nat) : ((n : Int).tdiv 2).toNat = n / 2 ∧ 0 ≤ (n : Int).tdiv 2 ∧ (0 < n → (n : Int).tdiv 2 < n) := by
  have : (n : Int).tdiv 2 = (n : Int) / 2 := Int.tdiv_eq_ediv_of_nonneg (by omega)
  rw [this]; omega
theorem winSe (v : Vw) (x y : Int) (c : Nat) : winK v x y c (2 * v.rad + 1).toNat 0 = winS v x y c := rfl
theorem ff2 {v : Vw} {wt : List Int} {x y : Int} (hk : v.kind = 4 ∨ v.kind = 7 ∨ v.kind = 8) : rankF v x y = filF v wt x y := by rw [filF, if_neg (by omega), if_pos hk]
theorem ap_rk {i : Im} {o : Pt} {bd out : Rc} {k : Int} {ps : List Int} {x y : Nat} (hk : k = 4 ∨ k = 7 ∨ k = 8) (hi : ichkE i = 0) (h : needE k ps out bd = 0) (hs : Shw i o (needR k ps out bd)) (hx : (x : Int) < out.w) (hy : (y : Int) < out.h) :
    RkH (vwOf i o bd k ps) (out.x + x) (out.y + y) := by
  obtain ⟨h1, h2, _⟩ := nd_0 h
  have he := empty_spec.1 h2
  have hr := reach_1 h1 (by omega)
  refine ⟨hk, hr.2, by omega, fun a b a1 a2 b1 b2 => ?_⟩
  simp only [vwOf] at a1 a2 b1 b2
  exact vin_of hi h hs hr.1 hr.2 (by omega) (by omega)
def e4 : Gs := ⟨[], [], [], []⟩
def nilD : D := .v (.slice none 0 0)
def zNv (TI TV : Nat) (i : Im) (o : Pt) (bd : Rc) (k : Int) (ps : List Int) : ZC := ⟨[.dat (imD i), .dat (ptD o), .dat (rcD bd), .dat (.i k), .dat (.sl 1 (ps.map iC))], [], [], [30000, 30001, 30002, 30003, 30004], Unit, fun _ => True, fun _ => .pt 30000 0, fun _ => rkH TI TV 30000 (vwOf i o bd k ps) nilD ⟨30001, 30002, 30003, 30004⟩ e4⟩
def zqN (TI TV : Nat) (as : List AV) : Option ZQ := match as with
  | [.dat (.agg i), .dat (.agg o), .dat (.agg b), .dat (.i k), .dat (.sl _ ps)] => some ⟨zNv TI TV (unIm i) (unPt o) (unRc b) k (ps.map unI), []⟩
  | _ => none
def nvH (TI TV : Nat) (i : Im) (o : Pt) (bd : Rc) (k : Int) (ps : List Int) (q : Int) : Hp := [(21, some (true, .box TV [.dat (.i i.w), .dat (.i i.h), .dat (.sl 4 (i.p.map pxC)), .dat (.i o.x), .dat (.i o.y), .dat (.i bd.x), .dat (.i bd.y), .dat (.i bd.w), .dat (.i bd.h), .dat (.i k), .dat (.sl 1 (ps.map iC)), .dat (.i (ps.getD 0 0)), .dat (.v (.slice none 0 0)),
  if 0 < q then .vw 20000 0 0 1 else .dat (.v (.slice none 0 0)), if 1 < q then .vw 20001 0 0 1 else .dat (.v (.slice none 0 0)), if 2 < q then .vw 20002 0 0 1 else .dat (.v (.slice none 0 0)), if 3 < q then .vw 20003 0 0 1 else .dat (.v (.slice none 0 0))])),
  (20000, some (true, .arr TI 1 [])), (20001, some (true, .arr TI 1 [])), (20002, some (true, .arr TI 1 [])), (20003, some (true, .arr TI 1 []))]
theorem nvh0 (TI TV : Nat) (i : Im) (o : Pt) (bd : Rc) (k : Int) (ps : List Int) : nvH TI TV i o bd k ps 0 = [(21, some (true, .box TV [.dat (.i i.w), .dat (.i i.h), .dat (.sl 4 (i.p.map pxC)), .dat (.i o.x), .dat (.i o.y), .dat (.i bd.x), .dat (.i bd.y), .dat (.i bd.w), .dat (.i bd.h), .dat (.i k), .dat (.sl 1 (ps.map iC)), .dat (.i (ps.getD 0 0)), .dat (.v (.slice none 0 0)), .dat (.v (.slice none 0 0)), .dat (.v (.slice none 0 0)), .dat (.v (.slice none 0 0)), .dat (.v (.slice none 0 0))])), (20000, some (true, .arr TI 1 [])), (20001, some (true, .arr TI 1 [])), (20002, some (true, .arr TI 1 [])), (20003, some (true, .arr TI 1 []))] := rfl
theorem nvh1 (TI TV : Nat) (i : Im) (o : Pt) (bd : Rc) (k : Int) (ps : List Int) : nvH TI TV i o bd k ps 1 = [(21, some (true, .box TV [.dat (.i i.w), .dat (.i i.h), .dat (.sl 4 (i.p.map pxC)), .dat (.i o.x), .dat (.i o.y), .dat (.i bd.x), .dat (.i bd.y), .dat (.i bd.w), .dat (.i bd.h), .dat (.i k), .dat (.sl 1 (ps.map iC)), .dat (.i (ps.getD 0 0)), .dat (.v (.slice none 0 0)), .vw 20000 0 0 1, .dat (.v (.slice none 0 0)), .dat (.v (.slice none 0 0)), .dat (.v (.slice none 0 0))])), (20000, some (true, .arr TI 1 [])), (20001, some (true, .arr TI 1 [])), (20002, some (true, .arr TI 1 [])), (20003, some (true, .arr TI 1 []))] := rfl
theorem nvh2 (TI TV : Nat) (i : Im) (o : Pt) (bd : Rc) (k : Int) (ps : List Int) : nvH TI TV i o bd k ps 2 = [(21, some (true, .box TV [.dat (.i i.w), .dat (.i i.h), .dat (.sl 4 (i.p.map pxC)), .dat (.i o.x), .dat (.i o.y), .dat (.i bd.x), .dat (.i bd.y), .dat (.i bd.w), .dat (.i bd.h), .dat (.i k), .dat (.sl 1 (ps.map iC)), .dat (.i (ps.getD 0 0)), .dat (.v (.slice none 0 0)), .vw 20000 0 0 1, .vw 20001 0 0 1, .dat (.v (.slice none 0 0)), .dat (.v (.slice none 0 0))])), (20000, some (true, .arr TI 1 [])), (20001, some (true, .arr TI 1 [])), (20002, some (true, .arr TI 1 [])), (20003, some (true, .arr TI 1 []))] := rfl
theorem nvh3 (TI TV : Nat) (i : Im) (o : Pt) (bd : Rc) (k : Int) (ps : List Int) : nvH TI TV i o bd k ps 3 = [(21, some (true, .box TV [.dat (.i i.w), .dat (.i i.h), .dat (.sl 4 (i.p.map pxC)), .dat (.i o.x), .dat (.i o.y), .dat (.i bd.x), .dat (.i bd.y), .dat (.i bd.w), .dat (.i bd.h), .dat (.i k), .dat (.sl 1 (ps.map iC)), .dat (.i (ps.getD 0 0)), .dat (.v (.slice none 0 0)), .vw 20000 0 0 1, .vw 20001 0 0 1, .vw 20002 0 0 1, .dat (.v (.slice none 0 0))])), (20000, some (true, .arr TI 1 [])), (20001, some (true, .arr TI 1 [])), (20002, some (true, .arr TI 1 [])), (20003, some (true, .arr TI 1 []))] := rfl
theorem nvh4 (TI TV : Nat) (i : Im) (o : Pt) (bd : Rc) (k : Int) (ps : List Int) : nvH TI TV i o bd k ps 4 = [(21, some (true, .box TV [.dat (.i i.w), .dat (.i i.h), .dat (.sl 4 (i.p.map pxC)), .dat (.i o.x), .dat (.i o.y), .dat (.i bd.x), .dat (.i bd.y), .dat (.i bd.w), .dat (.i bd.h), .dat (.i k), .dat (.sl 1 (ps.map iC)), .dat (.i (ps.getD 0 0)), .dat (.v (.slice none 0 0)), .vw 20000 0 0 1, .vw 20001 0 0 1, .vw 20002 0 0 1, .vw 20003 0 0 1])), (20000, some (true, .arr TI 1 [])), (20001, some (true, .arr TI 1 [])), (20002, some (true, .arr TI 1 [])), (20003, some (true, .arr TI 1 []))] := rfl
theorem rk_sq {r : Int} (h1 : -16 ≤ r) (h2 : r ≤ 16) : -1089 ≤ (2 * r + 1) * (2 * r + 1) ∧ (2 * r + 1) * (2 * r + 1) ≤ 1089 ∧ 0 ≤ (2 * r + 1) * (2 * r + 1) := by
  have h3 : ((2 * r + 1) * (2 * r + 1)).natAbs ≤ 33 * 33 := by rw [Int.natAbs_mul]; exact Nat.mul_le_mul (by omega) (by omega)
  have h4 : 0 ≤ (2 * r + 1) * (2 * r + 1) := by
    rcases Int.le_total 0 (2 * r + 1) with h | h
    · exact Int.mul_nonneg h h
    · exact Int.mul_nonneg_of_nonpos_of_nonpos h h
  omega
theorem apr {i : Im} {o : Pt} {bd out : Rc} {k : Int} {ps : List Int} {x y : Int} (hk : k = 4 ∨ k = 7 ∨ k = 8) : appF (vwOf i o bd k ps) (wtL k (ps.getD 0 0)) out x y = clrP (rankF (vwOf i o bd k ps) (out.x + x) (out.y + y)) := by rw [appF, ← ff2 hk]
end Go.Rect

set_option linter.unusedSimpArgs false
set_option linter.unusedVariables false
namespace Go.Rect
open Go.Eng
theorem fmin_le : ∀ (l : List Int) (m : Int), l.foldl min m ≤ m ∧ ∀ a ∈ l, l.foldl min m ≤ a
  | [], m => ⟨Int.le_refl _, by simp⟩
  | b :: l, m => by
    have ih := fmin_le l (min m b)
    simp only [List.foldl_cons]
    refine ⟨by omega, fun a ha => ?_⟩
    simp only [List.mem_cons] at ha
    rcases ha with rfl | ha
    · omega
    · exact ih.2 a ha
theorem fmax_ge : ∀ (l : List Int) (m : Int), m ≤ l.foldl max m ∧ ∀ a ∈ l, a ≤ l.foldl max m
  | [], m => ⟨Int.le_refl _, by simp⟩
  | b :: l, m => by
    have ih := fmax_ge l (max m b)
    simp only [List.foldl_cons]
    refine ⟨by omega, fun a ha => ?_⟩
    simp only [List.mem_cons] at ha
    rcases ha with rfl | ha
    · omega
    · exact ih.2 a ha
theorem fmin_mem : ∀ (l : List Int) (m : Int), l.foldl min m = m ∨ l.foldl min m ∈ l
  | [], m => .inl rfl
  | b :: l, m => by
    simp only [List.foldl_cons, List.mem_cons]
    rcases fmin_mem l (min m b) with h | h
    · rcases Int.le_total m b with g | g
      · rw [h]; exact .inl (by omega)
      · rw [h]; exact .inr (.inl (by omega))
    · exact .inr (.inr h)
theorem fmax_mem : ∀ (l : List Int) (m : Int), l.foldl max m = m ∨ l.foldl max m ∈ l
  | [], m => .inl rfl
  | b :: l, m => by
    simp only [List.foldl_cons, List.mem_cons]
    rcases fmax_mem l (max m b) with h | h
    · rcases Int.le_total m b with g | g
      · rw [h]; exact .inr (.inl (by omega))
      · rw [h]; exact .inl (by omega)
    · exact .inr (.inr h)
theorem getD_memI {l : List Int} {k : Nat} (h : k < l.length) : l.getD k 0 ∈ l := by
  rw [List.getD_eq_getElem?_getD, List.getElem?_eq_getElem h]; exact List.getElem_mem h
theorem minO_le {l : List Int} {a : Int} (h : a ∈ l) : minO l ≤ a := (fmin_le l _).2 a h
theorem le_maxO {l : List Int} {a : Int} (h : a ∈ l) : a ≤ maxO l := (fmax_ge l _).2 a h
theorem minO_mem {l : List Int} (h : 0 < l.length) : minO l ∈ l := by
  rcases fmin_mem l (l.getD 0 0) with e | e
  · unfold minO; rw [e]; exact getD_memI h
  · exact e
theorem maxO_mem {l : List Int} (h : 0 < l.length) : maxO l ∈ l := by
  rcases fmax_mem l (l.getD 0 0) with e | e
  · unfold maxO; rw [e]; exact getD_memI h
  · exact e
def belowB (p q : Px) : Bool := decide (p.r ≤ q.r) && decide (p.g ≤ q.g) && decide (p.b ≤ q.b) && decide (p.a ≤ q.a)
structure OkI (i : Im) (r : Int) : Prop where
  chk : ichkE i = 0
  ne : ¬ i.w = 0
  r0 : 0 ≤ r ∧ r ≤ 4
  al : ∀ k, k < i.p.length → ¬ (i.p.getD k zP).a = 0
section
variable {i : Im} {r : Int}
end
end Go.Rect

set_option linter.unusedSimpArgs false
set_option linter.unusedVariables false
namespace Go.Rect
open Go.Eng
section
variable {i : Im} {r : Int}
end
end Go.Rect

