import Derived.Test.YtppghgoeibelkaaLE
set_option linter.unusedSimpArgs false
set_option linter.unusedVariables false
set_option linter.unusedSimpArgs false
set_option linter.unusedVariables false
namespace Go.Rect
open Go.Eng
/-! ### The laws of layer 23 -/
theorem mchk_mk {m : Mk} (hz : Z0 m.w m.h) (h0 : m.w = 0 ↔ m.h = 0) (hl : m.v.length = nn m.w m.h) (hv : ∀ k, k < m.v.length → 0 ≤ m.v.getD k 0 ∧ m.v.getD k 0 ≤ 65535) : mchkE m = 0 := by
  have e := nnE hz
  have hz2 := hz
  unfold Z0 at hz2
  have h2 : okSz m = true := by
    apply mcS ⟨⟨⟨hz2.1, hz2.2.1⟩, hz2.2.2.1⟩, hz2.2.2.2⟩
    refine ⟨?_, by omega⟩
    rw [Bool.eq_iff_iff]; simp only [beq_iff_eq]; exact h0
  have h3 : m.v.all unitB = true := by
    rw [List.all_eq_true]
    intro x hx
    obtain ⟨k, hk, rfl⟩ := List.getElem_of_mem hx
    have := hv k hk
    rw [List.getD_eq_getElem?_getD, List.getElem?_eq_getElem hk] at this
    exact ut this
  rw [mchkE, h2, h3]; rfl
theorem mk_ext {m : Mk} {w h : Int} {f : Nat → Int} {n : Nat} (hw : m.w = w) (hh : m.h = h) (hl : m.v.length = n) (hv : ∀ k, k < n → m.v.getD k 0 = f k) : m = ⟨w, h, tab n f⟩ := by
  have : m.v = tab n f := by
    rw [tab_of m.v, hl]; exact tab_ext hv
  cases m; simp only [Mk.mk.injEq] at *; exact ⟨hw, hh, this⟩
theorem inv_eq {m : Mk} (hm : mchkE m = 0) : invR m = ⟨m.w, m.h, tab m.v.length (iF m)⟩ := by rw [invR, if_pos hm]
theorem inv_get {m : Mk} (hm : mchkE m = 0) {k : Nat} (hk : k < m.v.length) : (invR m).v.getD k 0 = 65535 - m.v.getD k 0 := by
  rw [inv_eq hm]; simp only; rw [tab_getD hk]; rfl
theorem inv_len {m : Mk} (hm : mchkE m = 0) : (invR m).v.length = m.v.length := by rw [inv_eq hm]; simp only [tab_len]
theorem inv_w {m : Mk} (hm : mchkE m = 0) : (invR m).w = m.w ∧ (invR m).h = m.h := by rw [inv_eq hm]; exact ⟨rfl, rfl⟩
theorem inv_ok {m : Mk} (hm : mchkE m = 0) : mchkE (invR m) = 0 := by
  have h := mchk0 hm; have e := inv_w hm
  apply mchk_mk
  · rw [e.1, e.2]; exact h.1
  · rw [e.1, e.2]; exact h.2.1
  · rw [inv_len hm, e.1, e.2]; exact h.2.2.1
  · intro k hk
    rw [inv_len hm] at hk
    rw [inv_get hm hk]
    have := h.2.2.2 k; omega
theorem inv_inv {m : Mk} (hm : mchkE m = 0) : invR (invR m) = m := by
  have e := inv_w hm
  rw [inv_eq (inv_ok hm), inv_len hm, e.1, e.2]
  symm
  apply mk_ext rfl rfl rfl
  intro k hk
  rw [iF, inv_get hm hk]; omega
theorem comb_eq {a b : Mk} {how : Int} (ha : mchkE a = 0) (hb : mchkE b = 0) (hw : a.w = b.w ∧ a.h = b.h) (hh : 0 ≤ how ∧ how ≤ 4) : combR a b how = ⟨a.w, a.h, tab (nn a.w a.h) fun k => comb (a.v.getD k 0) (b.v.getD k 0) how⟩ ∧ combE a b how = 0 := by
  have h := cb6r (k := nn (max a.w b.w) (max a.h b.h)) ha hb hh (by rintro ⟨_, _, q⟩; omega) rfl
  have e1 : max a.w b.w = a.w := by omega
  have e2 : max a.h b.h = a.h := by omega
  rw [e1, e2] at h
  refine ⟨?_, h.2⟩
  rw [h.1]
  congr 1
  apply tab_ext
  intro k hk
  have : ¬ a.w = 0 := fun g => by rw [nn, g] at hk; simp at hk
  rw [cF, orU, orU, if_neg this, if_neg (by omega)]
theorem alg {a b : Mk} (ha : mchkE a = 0) (hb : mchkE b = 0) (hw : a.w = b.w ∧ a.h = b.h) :
    combE a b 1 = 0 ∧ combE b a 1 = 0 ∧ combR b a 1 = combR a b 1 ∧ combE a b 3 = 0 ∧ combE b a 3 = 0 ∧ combR b a 3 = combR a b 3 ∧ mchkE (combR a b 1) = 0 ∧ combE (invR a) (invR b) 3 = 0 ∧ combR (invR a) (invR b) 3 = invR (combR a b 1) ∧ combE a b 2 = 0 ∧ combE a (invR b) 3 = 0 ∧ combR a (invR b) 3 = combR a b 2 := by
  have hw' : b.w = a.w ∧ b.h = a.h := ⟨hw.1.symm, hw.2.symm⟩
  have ia := inv_ok ha; have ib := inv_ok hb
  have wa := inv_w ha; have wb := inv_w hb
  have h1 := comb_eq ha hb hw (how := 1) (by omega); have h2 := comb_eq hb ha hw' (how := 1) (by omega)
  have h3 := comb_eq ha hb hw (how := 3) (by omega); have h4 := comb_eq hb ha hw' (how := 3) (by omega)
  have h5 := comb_eq ia ib (how := 3) (by rw [wa.1, wa.2, wb.1, wb.2]; exact hw) (by omega)
  have h6 := comb_eq ha hb hw (how := 2) (by omega)
  have h7 := comb_eq ha ib (how := 3) (by rw [wb.1, wb.2]; exact hw) (by omega)
  have ka := mchk0 ha; have kb := mchk0 hb
  have la := ka.2.2.1; have lb := kb.2.2.1
  have hlb : b.v.length = nn a.w a.h := by rw [lb, hw.1, hw.2]
  have ok1 : mchkE (combR a b 1) = 0 := by
    rw [h1.1]
    apply mchk_mk
    · exact ka.1
    · exact ka.2.1
    · simp only [tab_len]
    · intro k hk
      simp only [tab_len] at hk
      simp only
      rw [tab_getD hk]
      have := ka.2.2.2 k; have := kb.2.2.2 k
      simp only [comb]; rw [if_pos trivial]; omega
  refine ⟨h1.2, h2.2, ?_, h3.2, h4.2, ?_, ok1, h5.2, ?_, h6.2, h7.2, ?_⟩
  · rw [h1.1, h2.1, hw.1, hw.2]; congr 1; apply tab_ext; intro k _; simp only [comb]; rw [if_pos trivial, if_pos trivial]; omega
  · rw [h3.1, h4.1, hw.1, hw.2]; congr 1; apply tab_ext; intro k _; simp [comb]; omega
  · rw [inv_eq ok1, h5.1, wa.1, wa.2, h1.1]
    simp only [tab_len]
    congr 1
    apply tab_ext; intro k hk
    rw [inv_get ha (by omega), inv_get hb (by omega), iF]
    simp only
    rw [tab_getD hk]
    simp [comb]; omega
  · rw [h7.1, h6.1]
    congr 1
    apply tab_ext; intro k hk
    rw [inv_get hb (by omega)]
    simp [comb]
/-! ### Growing -/
theorem grid_get {w h : Int} {F : Int → Int → Int} {k : Nat} (hk : k < nn w h) : (grid w h F).v.getD k 0 = F ((k % w.toNat : Nat) : Int) ((k / w.toNat : Nat) : Int) := by
  rw [grid]; simp only; rw [tab_getD hk]; rfl
theorem gw_eq {m : Mk} {n : Int} (hm : mchkE m = 0) (hn : -16 ≤ n ∧ n ≤ 16) : gwR m n = grid m.w m.h (gwF m n) ∧ gwE m n = 0 := gw3 hm hn
theorem gst_ge {m : Mk} {x y n f j i : Int} (hn : 0 ≤ n) : f ≤ gst m x y n f j i := by
  unfold gst; split
  · exact Int.le_refl _
  · omega
theorem gst_le {m : Mk} {x y n f j i : Int} (hn : n < 0) : gst m x y n f j i ≤ f := by
  unfold gst; split
  · exact Int.le_refl _
  · rw [if_neg (by omega)]; omega
theorem grow1_ge {m : Mk} {x y n j : Int} (hn : 0 ≤ n) (l : Nat) : ∀ (k : Nat) (f : Int), f ≤ grow1 m x y n f j l k
  | 0, f => Int.le_refl _
  | k + 1, f => by rw [grow1_succ]; exact Int.le_trans (grow1_ge hn l k f) (gst_ge hn)
theorem grow1_le {m : Mk} {x y n j : Int} (hn : n < 0) (l : Nat) : ∀ (k : Nat) (f : Int), grow1 m x y n f j l k ≤ f
  | 0, f => Int.le_refl _
  | k + 1, f => by rw [grow1_succ]; exact Int.le_trans (gst_le hn) (grow1_le hn l k f)
def gfold (m : Mk) (x y n : Int) (l j : Nat) : Int := (List.range j).foldl (fun f (j' : Nat) => grow1 m x y n f ((j' : Int) - l) l (2 * l + 1)) (m.v.getD (y * m.w + x).toNat 0)
theorem gfold_succ (m : Mk) (x y n : Int) (l j : Nat) : gfold m x y n l (j + 1) = grow1 m x y n (gfold m x y n l j) ((j : Int) - l) l (2 * l + 1) := by simp [gfold, List.range_succ]
theorem gfold_ge {m : Mk} {x y n : Int} (hn : 0 ≤ n) (l : Nat) : ∀ j, m.v.getD (y * m.w + x).toNat 0 ≤ gfold m x y n l j
  | 0 => Int.le_refl _
  | j + 1 => by rw [gfold_succ]; exact Int.le_trans (gfold_ge hn l j) (grow1_ge hn l _ _)
theorem gfold_le {m : Mk} {x y n : Int} (hn : n < 0) (l : Nat) : ∀ j, gfold m x y n l j ≤ m.v.getD (y * m.w + x).toNat 0
  | 0 => Int.le_refl _
  | j + 1 => by rw [gfold_succ]; exact Int.le_trans (grow1_le hn l _ _) (gfold_le hn l j)
theorem gwF_fold (m : Mk) (n x y : Int) : gwF m n x y = gfold m x y n n.natAbs (2 * n.natAbs + 1) := rfl
theorem gwF_0 (m : Mk) (x y : Int) : gwF m 0 x y = m.v.getD (y * m.w + x).toNat 0 := g0_all _ _ _ g0_st
theorem kyx {w h : Int} {k : Nat} (hz : Z0 w h) (hk : k < nn w h) : (((k / w.toNat : Nat) : Int) * w + ((k % w.toNat : Nat) : Int)).toNat = k ∧ ((k % w.toNat : Nat) : Int) < w ∧ ((k / w.toNat : Nat) : Int) < h := by
  unfold Z0 at hz
  have hw : 0 < w.toNat := by
    rcases Nat.eq_zero_or_pos w.toNat with q | q
    · unfold nn at hk; rw [q, Nat.zero_mul] at hk; omega
    · exact q
  have b1 := Nat.mod_lt k hw
  have b2 : k / w.toNat < h.toNat := by rw [Nat.div_lt_iff_lt_mul hw, Nat.mul_comm]; unfold nn at hk; omega
  have e := Nat.div_add_mod k w.toNat
  have e2 : ((k / w.toNat : Nat) : Int) * w = (((k / w.toNat) * w.toNat : Nat) : Int) := by rw [Int.natCast_mul, Int.toNat_of_nonneg (by omega)]
  rw [e2]
  rw [Nat.mul_comm] at e
  generalize k / w.toNat = q at *
  generalize k % w.toNat = p at *
  omega
theorem gw_mono {m : Mk} {n : Int} (hm : mchkE m = 0) (hn : 0 ≤ n ∧ n ≤ 16) {k : Nat} (hk : k < m.v.length) : m.v.getD k 0 ≤ (gwR m n).v.getD k 0 ∧ (gwR m (-n)).v.getD k 0 ≤ m.v.getD k 0 := by
  have h := mchk0 hm
  have hk2 : k < nn m.w m.h := by rw [← h.2.2.1]; exact hk
  have e := kyx h.1 hk2
  rw [(gw_eq hm (by omega)).1, (gw_eq hm (n := -n) (by omega)).1, grid_get hk2, grid_get hk2]
  generalize hq : ((k / m.w.toNat : Nat) : Int) = q at *
  generalize hp : ((k % m.w.toNat : Nat) : Int) = p at *
  constructor
  · have := gfold_ge (m := m) (x := p) (y := q) hn.1 n.natAbs (2 * n.natAbs + 1)
    rw [e.1] at this; exact this
  · by_cases h0 : n = 0
    · subst h0
      rw [Int.neg_zero, gwF_0, e.1]; exact Int.le_refl _
    · have := gfold_le (m := m) (x := p) (y := q) (n := -n) (by omega) (-n).natAbs (2 * (-n).natAbs + 1)
      rw [e.1] at this; exact this
theorem gst_dual {m : Mk} {x y n f j i : Int} (hm : mchkE m = 0) (hn : 0 < n) : gst (invR m) x y n (65535 - f) j i = 65535 - gst m x y (-n) f j i := by
  have e := inv_w hm
  have hin : insM (invR m) (x + i) (y + j) = insM m (x + i) (y + j) := by unfold insM; rw [e.1, e.2]
  have hs : (-n) * (-n) = n * n := Int.neg_mul_neg n n
  unfold gst
  rw [hin, hs]
  by_cases g : n * n < i * i + j * j ∨ insM m (x + i) (y + j) = false
  · rw [if_pos g, if_pos g]
  · rw [if_neg g, if_neg g, if_pos (by omega), if_neg (by omega), e.1]
    have g2 : insM m (x + i) (y + j) = true := by cases q : insM m (x + i) (y + j) <;> simp_all
    have ha := atI hm g2
    rw [inv_get hm (by omega)]; omega
theorem grow1_dual {m : Mk} {x y n j : Int} (hm : mchkE m = 0) (hn : 0 < n) (l : Nat) : ∀ (k : Nat) (f : Int), grow1 (invR m) x y n (65535 - f) j l k = 65535 - grow1 m x y (-n) f j l k
  | 0, f => rfl
  | k + 1, f => by rw [grow1_succ, grow1_succ, grow1_dual hm hn l k f, gst_dual hm hn]
theorem gfold_dual {m : Mk} {x y n : Int} (hm : mchkE m = 0) (hn : 0 < n) (hxy : insM m x y = true) (l : Nat) : ∀ j, gfold (invR m) x y n l j = 65535 - gfold m x y (-n) l j
  | 0 => by
    have ha := atI hm hxy
    simp only [gfold, List.range_zero, List.foldl_nil]
    rw [(inv_w hm).1, inv_get hm (by omega)]
  | j + 1 => by rw [gfold_succ, gfold_succ, gfold_dual hm hn hxy l j, grow1_dual hm hn]
theorem gst_b {m : Mk} {x y n f j i : Int} (hm : mchkE m = 0) (hf : 0 ≤ f ∧ f ≤ 65535) : 0 ≤ gst m x y n f j i ∧ gst m x y n f j i ≤ 65535 := by
  unfold gst
  have := (mchk0 hm).2.2.2 ((y + j) * m.w + (x + i)).toNat
  split
  · exact hf
  · split <;> omega
theorem grow1_b {m : Mk} {x y n j : Int} (hm : mchkE m = 0) (l : Nat) : ∀ (k : Nat) (f : Int), (0 ≤ f ∧ f ≤ 65535) → 0 ≤ grow1 m x y n f j l k ∧ grow1 m x y n f j l k ≤ 65535
  | 0, f, h => h
  | k + 1, f, h => by rw [grow1_succ]; exact gst_b hm (grow1_b hm l k f h)
theorem gfold_b {m : Mk} {x y n : Int} (hm : mchkE m = 0) (l : Nat) : ∀ j, 0 ≤ gfold m x y n l j ∧ gfold m x y n l j ≤ 65535
  | 0 => (mchk0 hm).2.2.2 _
  | j + 1 => by rw [gfold_succ]; exact grow1_b hm l _ _ (gfold_b hm l j)
theorem gw_ok {m : Mk} {n : Int} (hm : mchkE m = 0) (hn : -16 ≤ n ∧ n ≤ 16) : mchkE (gwR m n) = 0 ∧ (gwR m n).v.length = m.v.length := by
  have h := mchk0 hm
  rw [(gw_eq hm hn).1]
  refine ⟨mchk_mk h.1 h.2.1 (by simp only [grid, tab_len]) fun k hk => ?_, by rw [h.2.2.1]; simp only [grid, tab_len]⟩
  simp only [grid, tab_len] at hk
  have := grid_get (F := gwF m n) hk
  rw [this]
  exact gfold_b hm _ _
theorem gw_dual {m : Mk} {n : Int} (hm : mchkE m = 0) (hn : 0 ≤ n ∧ n ≤ 16) : invR (gwR (invR m) n) = gwR m (-n) := by
  have hi := inv_ok hm; have e := inv_w hm
  have h := mchk0 hm
  have ok := gw_ok hi (n := n) (by omega)
  rw [inv_eq ok.1, (gw_eq hm (n := -n) (by omega)).1, grid]
  rw [ok.2, inv_len hm, h.2.2.1]
  have ew : (gwR (invR m) n).w = m.w ∧ (gwR (invR m) n).h = m.h := by rw [(gw_eq hi (n := n) (by omega)).1, grid]; exact e
  rw [ew.1, ew.2]
  congr 1
  apply tab_ext
  intro k hk
  rw [iF, (gw_eq hi (n := n) (by omega)).1, grid_get (by rw [e.1, e.2]; exact hk), e.1, gF]
  have b := kyx h.1 hk
  generalize hq : ((k / m.w.toNat : Nat) : Int) = q at *
  generalize hp : ((k % m.w.toNat : Nat) : Int) = p at *
  have q0 : 0 ≤ q := by rw [← hq]; exact Int.natCast_nonneg _
  have p0 : 0 ≤ p := by rw [← hp]; exact Int.natCast_nonneg _
  have hin : insM m p q = true := insM_T.2 (by omega)
  by_cases h0 : n = 0
  · subst h0
    have ha := atI hm hin
    rw [Int.neg_zero, gwF_0, gwF_0, e.1, inv_get hm (by omega)]; omega
  · rw [gwF_fold, gwF_fold, Int.natAbs_neg, gfold_dual hm (by omega) hin]; omega
/-! ### Plain masks -/
theorem new_ok {w h v : Int} (hs : SzOk w h) (hv : 0 ≤ v ∧ v ≤ 65535) : newE w h v = 0 ∧ newR w h v = grid w h (fun _ _ => v) ∧ mchkE (newR w h v) = 0 ∧ ∀ k, k < nn w h → (newR w h v).v.getD k 0 = v := by
  have e : newE w h v = 0 := by rw [newE, sized_T.2 hs, ut hv]; rfl
  have e2 : newR w h v = grid w h (fun _ _ => v) := by rw [newR, if_pos e]
  have hg : ∀ k, k < nn w h → (newR w h v).v.getD k 0 = v := fun k hk => by rw [e2, grid_get hk]
  refine ⟨e, e2, ?_, hg⟩
  apply mchk_mk
  · rw [e2]; exact sz_z hs
  · rw [e2]; simp only [grid]; unfold SzOk at hs; omega
  · rw [e2]; simp only [grid, tab_len]
  · intro k hk
    rw [e2] at hk; simp only [grid, tab_len] at hk
    rw [hg k hk]; exact hv
theorem sum_mul {α : Type} (f : α → Int) (c : Int) : ∀ (l : List α), (l.map fun x => f x * c).sum = (l.map f).sum * c
  | [] => by simp
  | x :: l => by simp only [List.map_cons, List.sum_cons, sum_mul f c l, Int.add_mul]
theorem pas_sq : ∀ R : Nat, R < 8 → ((List.range (2 * R + 1)).map fun j => ((List.range (2 * R + 1)).map fun i => pF (2 * R) i * pF (2 * R) j).sum).sum = 2 ^ (4 * R) := by decide +kernel
theorem div_ex {B v : Int} (hB : 0 < B) : divI (B * v) B = v := by
  unfold divI
  have e : 2 * (B * v) + B = B + (2 * B) * v := by rw [Int.mul_assoc]; omega
  rw [e, Int.add_mul_ediv_left _ _ (by omega), Int.ediv_eq_zero_of_lt (by omega) (by omega), Int.zero_add]
theorem fF_plain {m : Mk} {R : Nat} {x y v : Int} (hR : R ≤ 7) (h : ∀ X Y, clampM m X Y = v) : fF m R x y = v := by
  have e : sum2 (ftT m R x y) (2 * R + 1) (2 * R + 1) 0 = 2 ^ (4 * R) * v := by
    have h1 : sum2 (ftT m R x y) (2 * R + 1) (2 * R + 1) 0 = ((List.range (2 * R + 1)).map fun j => ((List.range (2 * R + 1)).map fun i => pF (2 * R) i * pF (2 * R) j * v).sum).sum := by
      simp only [sum2, List.range_zero, List.map_nil, List.sum_nil, Int.add_zero, ftT, h]; rfl
    rw [h1]
    have h2 : (fun j => ((List.range (2 * R + 1)).map fun i => pF (2 * R) i * pF (2 * R) j * v).sum) = fun j => ((List.range (2 * R + 1)).map fun i => pF (2 * R) i * pF (2 * R) j).sum * v := by
      funext j; exact sum_mul _ _ _
    rw [h2, sum_mul, pas_sq R (by omega)]
  rw [← fFE, e]
  exact div_ex (by have := sh4 R (by omega); omega)
theorem fea_plain {w h v r : Int} (hs : SzOk w h) (hv : 0 ≤ v ∧ v ≤ 65535) (hr : 0 ≤ r ∧ r ≤ 7) : feaE (newR w h v) r = 0 ∧ feaR (newR w h v) r = newR w h v := by
  obtain ⟨e1, e2, e3, e4⟩ := new_ok hs hv
  obtain ⟨R, rfl⟩ : ∃ R : Nat, r = (R : Int) := ⟨r.toNat, by omega⟩
  have h3 := fe3 (R := R) e3 (by omega)
  refine ⟨h3.2, ?_⟩
  rw [h3.1]
  have ew : (newR w h v).w = w ∧ (newR w h v).h = h := by rw [e2]; exact ⟨rfl, rfl⟩
  have hc : ∀ X Y, clampM (newR w h v) X Y = v := by
    intro X Y
    have hb := cl_b e3 (by rw [ew.1]; unfold SzOk at hs; omega) X Y
    rw [clampM]
    apply e4
    have hl : (newR w h v).v.length = nn w h := by rw [e2]; simp only [grid, tab_len]
    rw [← hl]; omega
  have ef : fF (newR w h v) R = fun _ _ => v := by funext x y; exact fF_plain (by omega) hc
  rw [ew.1, ew.2, ef, e2]; rfl
theorem gst_plain {m : Mk} {x y n j i v : Int} (hm : mchkE m = 0) (h : ∀ k, k < m.v.length → m.v.getD k 0 = v) : gst m x y n v j i = v := by
  unfold gst
  split
  · rfl
  · next g =>
    have g2 : insM m (x + i) (y + j) = true := by cases q : insM m (x + i) (y + j) <;> simp_all
    have ha := atI hm g2
    rw [h _ (by omega)]; simp
theorem gw_plain {w h v n : Int} (hs : SzOk w h) (hv : 0 ≤ v ∧ v ≤ 65535) (hn : -16 ≤ n ∧ n ≤ 16) : gwE (newR w h v) n = 0 ∧ gwR (newR w h v) n = newR w h v := by
  obtain ⟨e1, e2, e3, e4⟩ := new_ok hs hv
  have h3 := gw_eq e3 hn
  refine ⟨h3.2, ?_⟩
  have ew : (newR w h v).w = w ∧ (newR w h v).h = h := by rw [e2]; exact ⟨rfl, rfl⟩
  have hl : (newR w h v).v.length = nn w h := by rw [e2]; simp only [grid, tab_len]
  have hp : ∀ k, k < (newR w h v).v.length → (newR w h v).v.getD k 0 = v := fun k hk => e4 k (by omega)
  have g1 : ∀ (x y j : Int) (l k : Nat), grow1 (newR w h v) x y n v j l k = v := by
    intro x y j l k
    induction k with
    | zero => rfl
    | succ k ih => rw [grow1_succ, ih]; exact gst_plain e3 hp
  rw [h3.1, ew.1, ew.2]
  symm
  rw [grid]
  apply mk_ext ew.1 ew.2 hl
  intro k hk
  have b := kyx (sz_z hs) hk
  rw [e4 k hk, gF, gwF_fold]
  symm
  have g2 : ∀ j, gfold (newR w h v) ((k % w.toNat : Nat) : Int) ((k / w.toNat : Nat) : Int) n n.natAbs j = v := by
    intro j
    induction j with
    | zero =>
      simp only [gfold, List.range_zero, List.foldl_nil]
      rw [ew.1, b.1, e4 k hk]
    | succ j ih => rw [gfold_succ, ih]; exact g1 _ _ _ _ _
  exact g2 _
theorem gw_zero {m : Mk} (hm : mchkE m = 0) : gwE m 0 = 0 ∧ gwR m 0 = m := by
  have h3 := gw_eq hm (n := 0) (by omega)
  have h := mchk0 hm
  refine ⟨h3.2, ?_⟩
  rw [h3.1]
  symm
  rw [grid]
  apply mk_ext rfl rfl h.2.2.1
  intro k hk
  rw [gF, gwF_0, (kyx h.1 hk).1]
theorem fea_zero {m : Mk} (hm : mchkE m = 0) : feaE m 0 = 0 ∧ feaR m 0 = m := by
  have h3 := fe3 (R := 0) hm (by omega)
  have h := mchk0 hm
  refine ⟨h3.2, ?_⟩
  have e0 : feaR m 0 = feaR m ((0 : Nat) : Int) := rfl
  rw [e0, h3.1]
  symm
  apply mk_ext rfl rfl h.2.2.1
  intro k hk
  have b := kyx h.1 hk
  have hz := h.1
  unfold Z0 at hz
  rw [gF]
  generalize hq : ((k / m.w.toNat : Nat) : Int) = q at *
  generalize hp : ((k % m.w.toNat : Nat) : Int) = p at *
  have q0 : 0 ≤ q := by rw [← hq]; exact Int.natCast_nonneg _
  have p0 : 0 ≤ p := by rw [← hp]; exact Int.natCast_nonneg _
  have e : sum2 (ftT m 0 p q) (2 * 0 + 1) (2 * 0 + 1) 0 = clampM m p q := by
    have : sum2 (ftT m 0 p q) (2 * 0 + 1) (2 * 0 + 1) 0 = (0 + (0 + ftT m 0 p q 0 0)) + 0 ∨ sum2 (ftT m 0 p q) (2 * 0 + 1) (2 * 0 + 1) 0 = ftT m 0 p q 0 0 := by
      right; simp [sum2]
    have h2 : ftT m 0 p q 0 0 = clampM m p q := by
      have e1 : (pascal (2 * 0)).getD 0 0 = 1 := rfl
      simp only [ftT, e1]
      have x1 : p + ((0 : Nat) : Int) - ((0 : Nat) : Int) = p := by omega
      have x2 : q + ((0 : Nat) : Int) - ((0 : Nat) : Int) = q := by omega
      rw [x1, x2]; omega
    rcases this with t | t <;> rw [t] <;> omega
  rw [← fFE, e]
  have d1 : ∀ v : Int, divI v (2 ^ (4 * 0)) = v := by intro v; unfold divI; simp; omega
  rw [d1, clampM]
  have m1 : min (max q 0) (m.h - 1) = q := by omega
  have m2 : min (max p 0) (m.w - 1) = p := by omega
  rw [m1, m2, Int.mul_comm, b.1]
end Go.Rect

set_option linter.unusedSimpArgs false
set_option linter.unusedVariables false
namespace Go.Eng
open Go.RowKit
/-- An image without pixels, written out, is one with an empty slice. -/
theorem Fn.nilI {P : Program} {f : FuncId} {a : D} {r : RV} (n : Nat) (h : Fn P f [a, .agg [.i 0, .i 0, .sl n []]] r) : Fn P f [a, .agg [.i 0, .i 0, .v (.slice none 0 0)]] r := Fn.nilM n h
end Go.Eng
namespace Go.Rect
open Go.Eng
theorem tm17 {a : Int} (h : 0 ≤ a ∧ a ≤ 255) : 0 ≤ a.tmod 17 ∧ a.tmod 17 ≤ 16 := by rw [Int.tmod_eq_emod_of_nonneg h.1]; omega
theorem tm16 {a : Int} (h : 0 ≤ a ∧ a ≤ 255) : 0 ≤ a.tmod 16 ∧ a.tmod 16 ≤ 15 := by rw [Int.tmod_eq_emod_of_nonneg h.1]; omega
theorem tm8 {a : Int} (h : 0 ≤ a ∧ a ≤ 255) : 0 ≤ a.tmod 8 ∧ a.tmod 8 ≤ 7 := by rw [Int.tmod_eq_emod_of_nonneg h.1]; omega
theorem tm33 {a : Int} (h : 0 ≤ a ∧ a ≤ 255) : 0 ≤ a.tmod 33 ∧ a.tmod 33 ≤ 32 := by rw [Int.tmod_eq_emod_of_nonneg h.1]; omega
theorem tm24 {a : Int} (h : 0 ≤ a ∧ a ≤ 255) : 0 ≤ a.tmod 24 ∧ a.tmod 24 ≤ 23 := by rw [Int.tmod_eq_emod_of_nonneg h.1]; omega
/-! ### MaskOutside -/
theorem ou_0 {a b : Im} {m : Mk} (h : ¬ mxE a b m = 0) : mxR a b m = ⟨0, 0, []⟩ := by rw [mxR, if_neg h]; rfl
theorem ou_E {a b : Im} {m : Mk} (h : mxE a b m = 0) : ichkE a = 0 ∧ ichkE b = 0 ∧ mchkE m = 0 ∧ a.w = b.w ∧ a.h = b.h ∧ fitB m a = true := by
  unfold mxE at h
  by_cases h1 : ichkE a = 0
  · rw [if_neg (by simp [h1])] at h
    by_cases h2 : ichkE b = 0
    · rw [if_neg (by simp [h2])] at h
      by_cases h3 : mchkE m = 0
      · rw [if_neg (by simp [h3])] at h
        split at h
        · next g => exact ⟨h1, h2, h3, g⟩
        · omega
      · rw [if_pos h3] at h; exact absurd h h3
    · rw [if_pos h2] at h; exact absurd h h2
  · rw [if_pos h1] at h; exact absurd h h1
theorem ou_1 {a b : Im} {m : Mk} (h : mxE a b m = 0) (hc : (m.v.length : Int) = 0) : mxR a b m = b := by
  obtain ⟨h1, h2, h3, h4⟩ := ou_E h
  have hf := mx_end (k := 0) h1 h2 h3 h4 (by omega)
  rw [(mxx5 h1 h2 h3 h4).1, ← hf, ← filP_0]
theorem ou_len {a b : Im} {m : Mk} (h : mxE a b m = 0) (hc : ¬ (m.v.length : Int) = 0) : (mxR a b m).p.length = a.p.length ∧ a.p.length = b.p.length ∧ m.v.length = a.p.length ∧ (mxR a b m).w = a.w ∧ (mxR a b m).h = a.h := by
  obtain ⟨h1, h2, h3, h4⟩ := ou_E h
  have e := mx_len h1 h2 ⟨h4.1, h4.2.1⟩
  rw [(mxx5 h1 h2 h3 h4).1]
  simp only [tabP_len]
  refine ⟨e.symm, e, ?_, h4.1.symm, h4.2.1.symm⟩
  rcases fit_len h1 h3 h4.2.2 with q | q
  · omega
  · exact q.2
theorem ou_get {a b : Im} {m : Mk} {k : Nat} (h : mxE a b m = 0) (hc : ¬ (m.v.length : Int) = 0) (hk : (k : Int) < (m.v.length : Int)) : (mxR a b m).p.getD k zP = mxF a b m k ∧ m.v.getD k 0 = orU m k := by
  obtain ⟨h1, h2, h3, h4⟩ := ou_E h
  have L := ou_len h hc
  refine ⟨?_, (mx_or hk h1 h3 h4).1⟩
  rw [(mxx5 h1 h2 h3 h4).1]
  simp only
  rw [List.getD_eq_getElem?_getD, tabP, List.getElem?_map, List.getElem?_range (by omega)]; rfl
theorem ou_2 {a b : Im} {m : Mk} {k : Nat} (h : mxE a b m = 0) (hk0 : ¬ (m.v.length : Int) = 0) (hk : (k : Int) < (m.v.length : Int))
    (hc : m.v.getD k 0 = 0 ∧ (((mxR a b m).p.getD k zP).r == (a.p.getD k zP).r && (((mxR a b m).p.getD k zP).g == (a.p.getD k zP).g && (((mxR a b m).p.getD k zP).b == (a.p.getD k zP).b && ((mxR a b m).p.getD k zP).a == (a.p.getD k zP).a))) = false ∨
      m.v.getD k 0 = 65535 ∧ (((mxR a b m).p.getD k zP).r == (b.p.getD k zP).r && (((mxR a b m).p.getD k zP).g == (b.p.getD k zP).g && (((mxR a b m).p.getD k zP).b == (b.p.getD k zP).b && ((mxR a b m).p.getD k zP).a == (b.p.getD k zP).a))) = false) : False := by
  have g := ou_get h hk0 hk
  rcases hc with ⟨h1, h2⟩ | ⟨h1, h2⟩
  · exact px_neB h2 (by rw [g.1, ← mxF_0 (by rw [← g.2]; exact h1)])
  · exact px_neB h2 (by rw [g.1, ← mxF_1 (by rw [← g.2]; exact h1)])
/-! ### Polygon -/
theorem po1 {w h : Int} {p : List Pt} (hc : ¬ sizedE w h = 0) : polyR w h p = ⟨0, 0, []⟩ ∧ polyE w h p = sizedE w h := by
  have e := sizedE_1 hc
  exact ⟨by rw [polyR, e]; rfl, by rw [polyE, sizedE, e]; rfl⟩
theorem po2 {w h : Int} {p : List Pt} (hc : sizedB w h = false) : polyR w h p = ⟨0, 0, []⟩ ∧ polyE w h p = 15 := ⟨by rw [polyR, hc]; rfl, by rw [polyE, hc]; rfl⟩
theorem po_T {w h : Int} {p : List Pt} (hc : sizedB w h = true) : polyR w h p = maskR [p] 0 ⟨0, 0, w, h⟩ ∧ polyE w h p = maskE [p] 0 ⟨0, 0, w, h⟩ := ⟨by rw [polyR, hc]; rfl, by rw [polyE, hc]; rfl⟩
end Go.Rect

