import Derived.Test.YtgkflbibpkkegaaGreatDoorMB
set_option linter.unusedSimpArgs false
set_option linter.unusedVariables false
set_option linter.unusedSimpArgs false
set_option linter.unusedVariables false
namespace Go.Rect
open Go.Eng
theorem hf_w {n : Int} (h : 0 ≤ n ∧ n ≤ 256) : IntKind.i64.wrap (Int.tdiv (IntKind.i64.wrap (n + 1)) 2) = hfN n := by
  rw [w64 (n := n + 1) (by omega) (by omega), Int.tdiv_eq_ediv_of_nonneg (by omega), w64 (by omega) (by omega)]; rfl
theorem tl_w {n : Int} (h : 0 ≤ n ∧ n ≤ 256) : IntKind.i64.wrap (Int.tdiv (IntKind.i64.wrap (IntKind.i64.wrap (n + 16) - 1)) 16) = tlN n := by
  rw [w64 (n := n + 16) (by omega) (by omega), w64 (n := n + 16 - 1) (by omega) (by omega), Int.tdiv_eq_ediv_of_nonneg (by omega), w64 (by omega) (by omega), tlN]; omega
theorem td2 (k : Nat) : Int.tdiv (k : Int) 2 = ((k / 2 : Nat) : Int) := by rw [Int.tdiv_eq_ediv_of_nonneg (by omega)]; rfl
theorem tm2 (k : Nat) : Int.tmod (k : Int) 2 = ((k % 2 : Nat) : Int) := by rw [Int.tmod_eq_emod_of_nonneg (by omega)]; rfl
theorem tk_s {α : Type} (z : α) {l : List α} {k : Nat} (h : k < l.length) : l.take (k + 1) = l.take k ++ [l.getD k z] := by
  rw [List.take_add_one, List.getElem?_eq_getElem h, List.getD_eq_getElem?_getD, List.getElem?_eq_getElem h]; rfl
theorem tk_all {α : Type} {l : List α} {k : Nat} (h : (l.length : Int) ≤ (k : Int)) : l.take k = l := List.take_of_length_le (by omega)
theorem gd_mem {α : Type} {z : α} {l : List α} {k : Nat} (h : k < l.length) : l.getD k z ∈ l := by
  rw [List.getD_eq_getElem?_getD, List.getElem?_eq_getElem h]; exact List.getElem_mem h
def smK (l : List Px) (k : Nat) : Sm := smL (l.take k)
theorem smK_s {l : List Px} {k : Nat} (h : (k : Int) < (l.length : Int)) : smK l (k + 1) = ⟨(smK l k).r + (l.getD k zP).r * (l.getD k zP).a, (smK l k).g + (l.getD k zP).g * (l.getD k zP).a, (smK l k).b + (l.getD k zP).b * (l.getD k zP).a, (smK l k).a + (l.getD k zP).a, (smK l k).w + 1⟩ := by
  rw [smK, tk_s zP (by omega), smL, List.foldl_append, ← smL, ← smK, List.foldl_cons, List.foldl_nil, addS]
  simp only [Int.one_mul, Int.mul_comm, Int.mul_one]
theorem smK_all {l : List Px} {k : Nat} (h : (l.length : Int) ≤ (k : Int)) : smK l k = smL l := by rw [smK, tk_all h]
theorem smK_ok {l : List Px} (hl : l.length ≤ 4) (hp : ∀ p ∈ l, validP p = true) (k : Nat) : SmOk (smK l k) ∧ (smK l k).w ≤ 4 := by
  have h := sm_ok (l := l.take k) (by rw [List.length_take]; omega) fun p h => hp p (List.mem_of_mem_take h)
  refine ⟨h.1, ?_⟩
  rw [smK, h.2, List.length_take]; omega
theorem px_ps {p : Px} (h : validP p = true) : (0 ≤ p.r * p.a ∧ p.r * p.a ≤ 4294836225) ∧ (0 ≤ p.g * p.a ∧ p.g * p.a ≤ 4294836225) ∧ (0 ≤ p.b * p.a ∧ p.b * p.a ≤ 4294836225) ∧ (0 ≤ p.a ∧ p.a ≤ 65535) := by
  have hb := vP_bd h
  have m : ∀ {x y : Int}, (0 ≤ x ∧ x ≤ 65535) → (0 ≤ y ∧ y ≤ 65535) → 0 ≤ x * y ∧ x * y ≤ 4294836225 := fun hx hy => ⟨Int.mul_nonneg hx.1 hy.1, Int.le_trans (Int.mul_le_mul hx.2 hy.2 hy.1 (by omega)) (by omega)⟩
  exact ⟨m (by omega) (by omega), m (by omega) (by omega), m (by omega) (by omega), by omega⟩
theorem mnA {l : List Px} {n : Int} (hn : (smL l).w = n) (h0 : 0 < n) (hc : divI (smL l).a n = 0) : zP = meanL l := by
  rw [meanL, meanS, hn]; split
  · rfl
  · simp only [hc, if_true]
theorem mnB {l : List Px} {n : Int} (hn : (smL l).w = n) (h0 : 0 < n) (hc : ¬ divI (smL l).a n = 0) : (⟨divI (smL l).r (smL l).a, divI (smL l).g (smL l).a, divI (smL l).b (smL l).a, divI (smL l).a n⟩ : Px) = meanL l := by
  have ha : ¬ (smL l).a = 0 := fun h => hc (by rw [h, divI_0 (by omega)])
  rw [meanL, meanS, hn, if_neg ha, if_neg hc]
theorem hfL_s (m : Im) (x y : Int) (j k : Nat) : hfL m x y j (k + 1) = hfL m x y j k ++ [pxA m (2 * x + k) (2 * y + j)] := by
  rw [hfL, hfR, List.range_succ, List.map_append, ← hfR, ← List.append_assoc, ← hfL]; rfl
theorem hfL_o (m : Im) (x y : Int) (j : Nat) : hfL m x y j (hfX m.w x) = hfL m x y (j + 1) 0 := by
  rw [hfL, hfL, List.range_succ, List.flatMap_append]; simp [hfR]
theorem hfL_len (m : Im) (x y : Int) (j k : Nat) : (hfL m x y j k).length = j * hfX m.w x + k := by
  have : ∀ j, ((List.range j).flatMap (fun j' => hfR m x y j' (hfX m.w x))).length = j * hfX m.w x := fun j => by
    induction j with
    | zero => simp
    | succ j ih => rw [List.range_succ, List.flatMap_append, List.length_append, ih, Nat.succ_mul]; simp [hfR]
  rw [hfL, List.length_append, this]; simp [hfR]
theorem hf_ix {m : Im} {x y j k : Nat} (hm : ichkE m = 0) (hu : 2 * (x : Int) + k < m.w) (hv : 2 * (y : Int) + j < m.h) :
    ((0 ≤ (2 * (y : Int) + j) * m.w ∧ (2 * (y : Int) + j) * m.w ≤ 65536) ∧ 0 ≤ (2 * (y : Int) + j) * m.w + (2 * (x : Int) + k) ∧ ((2 * (y : Int) + j) * m.w + (2 * (x : Int) + k)).toNat < m.p.length ∧ (m.p.length : Int) ≤ 65536) ∧
    m.p.getD ((2 * (y : Int) + j) * m.w + (2 * (x : Int) + k)).toNat zP = pxA m (2 * (x : Int) + k) (2 * (y : Int) + j) :=
  ⟨pkp_ix hm ⟨⟨by omega, hu⟩, by omega, hv⟩, rfl⟩
theorem rfL_y {m : Im} {x y : Int} {k : Nat} (h : 2 * x + ((k % 2 : Nat) : Int) < m.w ∧ 2 * y + ((k / 2 : Nat) : Int) < m.h) : rfL m x y (k + 1) = rfL m x y k ++ [pxA m (2 * x + ((k % 2 : Nat) : Int)) (2 * y + ((k / 2 : Nat) : Int))] := by
  rw [rfL, List.range_succ, List.flatMap_append, ← rfL]; simp only [List.flatMap_cons, List.flatMap_nil, List.append_nil, if_pos h]
theorem rfL_n {m : Im} {x y : Int} {k : Nat} (h : ¬ (2 * x + ((k % 2 : Nat) : Int) < m.w ∧ 2 * y + ((k / 2 : Nat) : Int) < m.h)) : rfL m x y (k + 1) = rfL m x y k := by
  rw [rfL, List.range_succ, List.flatMap_append, ← rfL]; simp only [List.flatMap_cons, List.flatMap_nil, List.append_nil, if_neg h]
theorem rfL_len (m : Im) (x y : Int) : ∀ k, (rfL m x y k).length ≤ k
  | 0 => Nat.le_refl _
  | k + 1 => by
    have := rfL_len m x y k
    by_cases h : 2 * x + ((k % 2 : Nat) : Int) < m.w ∧ 2 * y + ((k / 2 : Nat) : Int) < m.h
    · rw [rfL_y h, List.length_append]; simp only [List.length_cons, List.length_nil]; omega
    · rw [rfL_n h]; omega
theorem hf_0 {m : Im} (h : ichkE m = 0) : hfI m = halfI m := by rw [hfI, if_pos h]
theorem hf_1 {m : Im} (h : ¬ ichkE m = 0) : hfI m = zI := by rw [hfI, if_neg h]
theorem rd_1 {m : Im} {l : Int} (h : ¬ ichkE m = 0) : redR m l = zI ∧ redE m l = ichkE m := by
  have e : redE m l = ichkE m := by rw [redE, if_pos h]
  exact ⟨by rw [redR, e, if_neg h], e⟩
theorem rd_2 {m : Im} {l : Int} (h : ichkE m = 0) (h2 : l < 0 ∨ 4 < l) : redR m l = zI ∧ redE m l = 2 := by
  have e : redE m l = 2 := by rw [redE, if_neg (by omega), if_pos h2]
  exact ⟨by rw [redR, e, if_neg (by omega)], e⟩
theorem rd_3 {m : Im} {l : Int} {k : Nat} (h : ichkE m = 0) (h2 : 0 ≤ l ∧ l ≤ 4) (hk : k ≤ l.toNat) (hl : l ≤ (k : Int)) : redR m l = redK m k ∧ redE m l = 0 := by
  have e := redE_0 h h2
  have : k = l.toNat := by omega
  subst this
  exact ⟨e.2, e.1⟩
theorem sz_e {n l : Int} {k : Nat} (h : (k : Int) ≤ clampI l 0 4) (hc : clampI l 0 4 ≤ (k : Int)) : hfK (clampI n 0 256) k = szK n l := by
  have : k = lvI l := by unfold lvI; omega
  rw [szK, this]
theorem cl_bd (n : Int) : 0 ≤ clampI n 0 256 ∧ clampI n 0 256 ≤ 256 := by unfold clampI; omega
theorem cl4_bd (n : Int) : 0 ≤ clampI n 0 4 ∧ clampI n 0 4 ≤ 4 := by unfold clampI; omega
theorem nd_a {w h l : Int} {out : Rc} (hc : ((((w < 1 ∨ 256 < w) ∨ h < 1) ∨ 256 < h) ∨ l < 0) ∨ 4 < l) : zR = ndsR w h l out := by rw [ndsR, if_pos (by omega)]
theorem nd_b {w h l : Int} {out : Rc} (hc : emptyB out = true) : zR = ndsR w h l out := by rw [ndsR, if_pos (.inr (.inl hc))]
theorem nd_v {w h l : Int} {out : Rc} (hc : validB out = false) : zR = ndsR w h l out := by
  apply nd_b
  cases he : emptyB out with
  | true => rfl
  | false =>
    have := (valid_spec (r := out)).2 (by have := empty_spec.1 he; omega)
    rw [hc] at this; cases this
theorem nd_w {w h l : Int} {out : Rc} (hc : withinB out ⟨0, 0, szK w l, szK h l⟩ = false) : zR = ndsR w h l out := by rw [ndsR, if_pos (.inr (.inr hc))]
theorem nd_c {w h l : Int} {out : Rc} (h0 : ((((1 ≤ w ∧ w ≤ 256) ∧ 1 ≤ h) ∧ h ≤ 256) ∧ 0 ≤ l) ∧ l ≤ 4) (h1 : emptyB out = false) (h2 : withinB out ⟨0, 0, szK w l, szK h l⟩ = true) :
    meetR ⟨2 ^ l.toNat * out.x, 2 ^ l.toNat * out.y, 2 ^ l.toNat * out.w, 2 ^ l.toNat * out.h⟩ ⟨0, 0, w, h⟩ = ndsR w h l out := by
  rw [ndsR, if_neg]
  rintro (h | h | h)
  · omega
  · rw [h1] at h; cases h
  · rw [h2] at h; cases h
theorem nds_in {w h l : Int} {out : Rc} (h0 : ((((1 ≤ w ∧ w ≤ 256) ∧ 1 ≤ h) ∧ h ≤ 256) ∧ 0 ≤ l) ∧ l ≤ 4) (h1 : emptyB out = false) (h2 : withinB out ⟨0, 0, szK w l, szK h l⟩ = true) :
    (0 ≤ out.x ∧ out.x ≤ 256) ∧ (0 ≤ out.y ∧ out.y ≤ 256) ∧ (0 ≤ out.w ∧ out.w ≤ 256) ∧ (0 ≤ out.h ∧ out.h ≤ 256) := by
  have b1 := szK_bd w l
  have b2 := szK_bd h l
  have c1 := hfK_1 (n := clampI w 0 256) (by unfold clampI; omega) (lvI l)
  have c2 := hfK_1 (n := clampI h 0 256) (by unfold clampI; omega) (lvI l)
  have := ind_in ⟨c1, b1.2⟩ ⟨c2, b2.2⟩ h1 h2
  unfold InI at this
  simp only [szK] at b1 b2
  omega
theorem sh_w {p a : Int} (hp : 1 ≤ p ∧ p ≤ 16) (ha : 0 ≤ a ∧ a ≤ 256) : IntKind.i64.wrap (a * p) = p * a := by
  have := sc_bd hp ha
  rw [Int.mul_comm, w64 (by omega) (by omega)]
theorem sh_m {p a : Int} (hp : 1 ≤ p ∧ p ≤ 16) (ha : 0 ≤ a ∧ a ≤ 256) : IntKind.i64.wrap (p * a) = p * a := by
  have := sc_bd hp ha
  rw [w64 (by omega) (by omega)]
theorem p2_s {l : Int} {k : Nat} (h : (k : Int) < l) (hl : l ≤ 4) : IntKind.i64.wrap (2 * 2 ^ k) = 2 ^ (k + 1) := by
  have := pow_le (k := k) (by omega)
  rw [w64 (by omega) (by omega), Int.pow_succ, Int.mul_comm]
theorem p2_e {l : Int} {k : Nat} (h : (k : Int) ≤ l) (hc : l ≤ (k : Int)) : k = l.toNat := by omega
def rowP (r : Int) : Px := ⟨r, 0, 0, 65535⟩
def rowK (l : List Int) (k : Nat) : List Px := (l.take k).map rowP
def rowI (l : List Int) : Im := ⟨l.length, 1, l.map rowP⟩
theorem rowK_s {l : List Int} {k : Nat} (h : (k : Int) < (l.length : Int)) : rowK l (k + 1) = rowK l k ++ [rowP (l.getD k 0)] := by rw [rowK, tk_s 0 (by omega), List.map_append]; rfl
theorem rowK_all {l : List Int} {k : Nat} (h : (l.length : Int) ≤ (k : Int)) : rowK l k = l.map rowP := by rw [rowK, tk_all h]
theorem rowK_len {l : List Int} {k : Nat} (h : k ≤ l.length) : (rowK l k).length = k := by rw [rowK, List.length_map, List.length_take]; omega
def sqI : Im := ⟨2, 2, [⟨65535, 65535, 65535, 65535⟩, zP, ⟨7, 0, 0, 0⟩, zP]⟩
def bkI (r : Rc) : Im := ⟨r.w, r.h, tabP (nn r.w r.h) fun _ => zP⟩
theorem rep_t (n : Nat) : (List.replicate n zP).map pxC = (tabP n fun _ => zP).map pxC := by rw [tabP, List.map_const', List.length_range]
theorem bk_ok {w h : Int} (hs : isz w h = true) : ichkE (bkI ⟨0, 0, w, h⟩) = 0 := ich_of hs fun _ _ => by decide
def tleI (x : Int) : Im := if x = 0 then redK (bkI ⟨0, 0, 20, 20⟩) 1 else zI
def tleE (x : Int) : Int := if x = 0 then 0 else 2
theorem tle_r : redR (bkI ⟨0, 0, 20, 20⟩) 1 = tleI 0 ∧ redE (bkI ⟨0, 0, 20, 20⟩) 1 = 0 := by
  have h := redE_0 (bk_ok (w := 20) (h := 20) (by decide)) (l := 1) (by omega)
  exact ⟨h.2, h.1⟩
theorem tle_n : ndsR 20 20 1 ⟨0, 0, 10, 10⟩ = ⟨0, 0, 20, 20⟩ ∧ szK 20 1 = 10 ∧ tlN 10 = 1 := by decide
theorem ne1 {w h l : Int} {out : Rc} (hc : (validB out = false ∨ emptyB out = true) ∨ withinB out ⟨0, 0, szK w l, szK h l⟩ = false) : zR = ndsR w h l out := by
  rcases hc with (hc | hc) | hc
  · exact nd_v hc
  · exact nd_b hc
  · exact nd_w hc
theorem ne2 {w h l : Int} {out : Rc} (hc : (validB out = true ∧ emptyB out = false) ∧ withinB out ⟨0, 0, szK w l, szK h l⟩ = true) : emptyB out = false := hc.1.2
theorem ne3 {w h l : Int} {out : Rc} (hc : (validB out = true ∧ emptyB out = false) ∧ withinB out ⟨0, 0, szK w l, szK h l⟩ = true) : withinB out ⟨0, 0, szK w l, szK h l⟩ = true := hc.2
theorem rn0 {w h l : Int} {out : Rc} (hc : ((((((1 ≤ w ∧ w ≤ 256) ∧ 1 ≤ h) ∧ h ≤ 256) ∧ 0 ≤ l) ∧ l ≤ 4) ∧ validB out = true) ∧ emptyB out = false) : ((((1 ≤ w ∧ w ≤ 256) ∧ 1 ≤ h) ∧ h ≤ 256) ∧ 0 ≤ l) ∧ l ≤ 4 := hc.1.1
theorem rn1 {w h l : Int} {out : Rc} (hc : ((((((1 ≤ w ∧ w ≤ 256) ∧ 1 ≤ h) ∧ h ≤ 256) ∧ 0 ≤ l) ∧ l ≤ 4) ∧ validB out = true) ∧ emptyB out = false) : emptyB out = false := hc.2
theorem rn2 {w h l : Int} {out : Rc} (hc : ((((((w < 1 ∨ 256 < w) ∨ h < 1) ∨ 256 < h) ∨ l < 0) ∨ 4 < l) ∨ validB out = false) ∨ emptyB out = true) : zR = ndsR w h l out := by
  rcases hc with (hc | hc) | hc
  · exact nd_a hc
  · exact nd_v hc
  · exact nd_b hc
theorem mnC {l : List Px} {n : Int} (hn : (smL l).w = n) (h0 : 0 < n) (hc : (smL l).a = 0 ∨ divI (smL l).a n = 0) : zP = meanL l := by
  rcases hc with hc | hc
  · rw [meanL, meanS, if_pos hc]
  · exact mnA hn h0 hc
theorem mnD {l : List Px} {n : Int} (hn : (smL l).w = n) (h0 : 0 < n) (hc : ¬ (smL l).a = 0 ∧ ¬ divI (smL l).a n = 0) : (⟨divI (smL l).r (smL l).a, divI (smL l).g (smL l).a, divI (smL l).b (smL l).a, divI (smL l).a n⟩ : Px) = meanL l := mnB hn h0 hc.2
theorem and_of {m : Im} {x y : Int} {k : Nat} (hc : 2 * x + ((k % 2 : Nat) : Int) < m.w ∧ 2 * y + ((k / 2 : Nat) : Int) < m.h) : 2 * x + ((k % 2 : Nat) : Int) < m.w ∧ 2 * y + ((k / 2 : Nat) : Int) < m.h := hc
theorem at_in {m : Im} {x y k : Nat} (hm : ichkE m = 0) (h : 2 * (x : Int) + ((k % 2 : Nat) : Int) < m.w ∧ 2 * (y : Int) + ((k / 2 : Nat) : Int) < m.h) : atP m (2 * (x : Int) + ((k % 2 : Nat) : Int)) (2 * (y : Int) + ((k / 2 : Nat) : Int)) = pxA m (2 * (x : Int) + ((k % 2 : Nat) : Int)) (2 * (y : Int) + ((k / 2 : Nat) : Int)) := by
  rw [at_i hm, px_pk (by omega) (by omega)]
theorem tbE {w h : Int} {y : Nat} {f : Nat → Px} (hY : y ≤ h.toNat) (hc : h ≤ (y : Int)) : tabP (y * w.toNat) f = tabP (nn w h) f := by
  rw [nn, show y = h.toNat from by omega, Nat.mul_comm]
theorem sz_1 {n : Int} (h : 0 ≤ n ∧ n ≤ 256) : szK n 1 = hfN n := by rw [szK_eq h (by omega)]; rfl
theorem falN {n k : Nat} {f g : Nat → Px} (hK : k ≤ n) (hc : (n : Int) ≤ (k : Int)) : filP n f g k = tabP n f := filP_all fun i h1 h2 => by omega
theorem bk_f {w h : Int} (f : Nat → Px) : (bkI ⟨0, 0, w, h⟩).p.map pxC = (filP (nn w h) f (fun _ => zP) 0).map pxC := by
  rw [bkI, filP]; simp
theorem bk_len (r : Rc) : (bkI r).p.length = nn r.w r.h := tabP_len _ _
theorem hf_len (m : Im) : (halfI m).p.length = nn (hfN m.w) (hfN m.h) := tabP_len _ _
theorem td_n {r : Rc} {k : Nat} (h : emptyB r = false) : Int.tdiv (k : Int) r.w = ((k / r.w.toNat : Nat) : Int) := by
  have := empty_spec.1 h
  exact tdN (by omega)
theorem tm_n {r : Rc} {k : Nat} (h : emptyB r = false) : Int.tmod (k : Int) r.w = ((k % r.w.toNat : Nat) : Int) := by
  have := empty_spec.1 h
  exact tmN (by omega)
theorem ix_bd {w h : Int} {k : Nat} (hz : Z0 w h) (hk : k < nn w h) : (k % w.toNat < w.toNat ∧ w.toNat ≤ 256) ∧ k / w.toNat < h.toNat ∧ h.toNat ≤ 256 := by
  unfold Z0 at hz
  have hw : 0 < w.toNat := Nat.pos_of_ne_zero fun h0 => by rw [nn, h0, Nat.zero_mul] at hk; omega
  exact ⟨⟨Nat.mod_lt _ hw, by omega⟩, Nat.div_lt_of_lt_mul hk, by omega⟩
theorem stp_h {m : Im} {a b : Int} (hc : (((0 ≤ a ∧ 0 ≤ b) ∧ a ≤ 4) ∧ b ≤ IntKind.i64.wrap (4 - a)) ∧ ichkE m = 0) : ichkE m = 0 ∧ (0 ≤ a ∧ a ≤ 4) ∧ 0 ≤ b ∧ b ≤ 4 - a := by
  obtain ⟨⟨⟨⟨h1, h2⟩, h3⟩, h4⟩, h5⟩ := hc
  rw [w64 (by omega) (by omega)] at h4
  exact ⟨h5, ⟨h1, h3⟩, h2, h4⟩
theorem w64N {n : Nat} (h : n ≤ 65536) : IntKind.i64.wrap (n : Int) = (n : Int) := w64 (by omega) (by omega)
theorem w64A {a : Int} {n : Nat} (ha : -1048576 ≤ a ∧ a ≤ 1048576) (h : n ≤ 65536) : IntKind.i64.wrap (a + (n : Int)) = a + (n : Int) := w64 (by omega) (by omega)
theorem ndO {A B : Prop} [Decidable A] [Decidable B] (h : (decide A && decide B) = false) : ¬ (A ∧ B) := by simpa using h
theorem icZ : ((0 : Nat) : Int) = 0 := rfl
theorem dlt0 : decide ((0 : Int) < 0) = false := rfl
theorem tle_m : meetR (ofTileR ⟨0, 0⟩) ⟨0, 0, 10, 10⟩ = ⟨0, 0, 10, 10⟩ := by decide
theorem half_w (m : Im) : (halfI m).w = hfN m.w := rfl
theorem half_h (m : Im) : (halfI m).h = hfN m.h := rfl
theorem ix_XY {w h : Int} {k : Nat} (hz : Z0 w h) (hk : (k : Int) < ((nn w h : Nat) : Int)) : ∃ X Y : Nat, k % w.toNat = X ∧ k / w.toNat = Y ∧ (X : Int) < w ∧ (Y : Int) < h ∧ 0 < w := by
  have hb := ix_bd hz (k := k) (by omega)
  unfold Z0 at hz
  exact ⟨_, _, rfl, rfl, by omega, by have := hb.2.1; omega, by omega⟩
theorem hf_get {m : Im} {k X Y : Nat} (hX : k % (hfN m.w).toNat = X) (hY : k / (hfN m.w).toNat = Y) (hk : (k : Int) < ((nn (hfN m.w) (hfN m.h) : Nat) : Int)) : (halfI m).p.getD k zP = hfP m (X : Int) (Y : Int) := by
  rw [halfI]; show (tabP _ _).getD k zP = _
  rw [tabP_get (by omega), gP, hX, hY]
theorem lo_y {m : Im} {x y : Int} {k : Nat} (h : 2 * x + ((k % 2 : Nat) : Int) < m.w ∧ 2 * y + ((k / 2 : Nat) : Int) < m.h) : loL (rfL m x y (k + 1)) = if (pxA m (2 * x + ((k % 2 : Nat) : Int)) (2 * y + ((k / 2 : Nat) : Int))).a < loL (rfL m x y k) then (pxA m (2 * x + ((k % 2 : Nat) : Int)) (2 * y + ((k / 2 : Nat) : Int))).a else loL (rfL m x y k) := by
  rw [rfL_y h, loL, List.foldl_append, ← loL]; rfl
theorem hi_y {m : Im} {x y : Int} {k : Nat} (h : 2 * x + ((k % 2 : Nat) : Int) < m.w ∧ 2 * y + ((k / 2 : Nat) : Int) < m.h) : hiL (rfL m x y (k + 1)) = if hiL (rfL m x y k) < (pxA m (2 * x + ((k % 2 : Nat) : Int)) (2 * y + ((k / 2 : Nat) : Int))).a then (pxA m (2 * x + ((k % 2 : Nat) : Int)) (2 * y + ((k / 2 : Nat) : Int))).a else hiL (rfL m x y k) := by
  rw [rfL_y h, hiL, List.foldl_append, ← hiL]; rfl
theorem lo_1 {m : Im} {x y : Int} {k : Nat} (h : 2 * x + ((k % 2 : Nat) : Int) < m.w ∧ 2 * y + ((k / 2 : Nat) : Int) < m.h) (hc : (pxA m (2 * x + ((k % 2 : Nat) : Int)) (2 * y + ((k / 2 : Nat) : Int))).a < loL (rfL m x y k)) : (pxA m (2 * x + ((k % 2 : Nat) : Int)) (2 * y + ((k / 2 : Nat) : Int))).a = loL (rfL m x y (k + 1)) := by rw [lo_y h, if_pos hc]
theorem lo_0 {m : Im} {x y : Int} {k : Nat} (h : 2 * x + ((k % 2 : Nat) : Int) < m.w ∧ 2 * y + ((k / 2 : Nat) : Int) < m.h) (hc : loL (rfL m x y k) ≤ (pxA m (2 * x + ((k % 2 : Nat) : Int)) (2 * y + ((k / 2 : Nat) : Int))).a) : loL (rfL m x y k) = loL (rfL m x y (k + 1)) := by rw [lo_y h, if_neg (by omega)]
theorem hi_1 {m : Im} {x y : Int} {k : Nat} (h : 2 * x + ((k % 2 : Nat) : Int) < m.w ∧ 2 * y + ((k / 2 : Nat) : Int) < m.h) (hc : hiL (rfL m x y k) < (pxA m (2 * x + ((k % 2 : Nat) : Int)) (2 * y + ((k / 2 : Nat) : Int))).a) : (pxA m (2 * x + ((k % 2 : Nat) : Int)) (2 * y + ((k / 2 : Nat) : Int))).a = hiL (rfL m x y (k + 1)) := by rw [hi_y h, if_pos hc]
theorem hi_0 {m : Im} {x y : Int} {k : Nat} (h : 2 * x + ((k % 2 : Nat) : Int) < m.w ∧ 2 * y + ((k / 2 : Nat) : Int) < m.h) (hc : (pxA m (2 * x + ((k % 2 : Nat) : Int)) (2 * y + ((k / 2 : Nat) : Int))).a ≤ hiL (rfL m x y k)) : hiL (rfL m x y k) = hiL (rfL m x y (k + 1)) := by rw [hi_y h, if_neg (by omega)]
theorem un_ok {m : Im} {p : Px} (hE : nwpE m.w m.h p = 0) (ha : ¬ p.a = 0) : nwpR m.w m.h p = ⟨m.w, m.h, tabP (nn m.w m.h) fun _ => p⟩ ∧ ichkE (nwpR m.w m.h p) = 0 ∧ 0 < p.a ∧ isz m.w m.h = true := by
  have h1 : isz m.w m.h = true := by
    cases h : isz m.w m.h with
    | true => rfl
    | false => rw [nwpE, if_pos h] at hE; cases hE
  have h2 : validP p = true := by
    cases h : validP p with
    | true => rfl
    | false => rw [nwpE, if_neg (by rw [h1]; decide), if_pos h] at hE; cases hE
  have h3 := (np3 h1 h2).1
  refine ⟨h3, by rw [h3]; exact ich_of h1 fun _ _ => h2, ?_, h1⟩
  have := vP_bd h2
  omega
theorem un_px {m : Im} {p : Px} {l : Int} {k : Nat} (hE : nwpE m.w m.h p = 0) (ha : ¬ p.a = 0) (hl : 0 ≤ l ∧ l ≤ 4) (hk : (k : Int) < ((redR (nwpR m.w m.h p) l).p.length : Int)) : (redR (nwpR m.w m.h p) l).p.getD k zP = p := by
  have hu := un_ok hE ha
  have hr := redE_0 hu.2.1 hl
  rw [hr.2] at hk ⊢
  have hR := red_ok hu.2.1 l.toNat
  have hi := ichk0 hR
  have hz := hi.1
  have hu2 : ∀ u v, 0 ≤ u ∧ u < (nwpR m.w m.h p).w → 0 ≤ v ∧ v < (nwpR m.w m.h p).h → pxA (nwpR m.w m.h p) u v = p := fun u v h1 h2 => by
    rw [hu.1] at h1 h2 ⊢
    exact px_tab (F := fun _ _ => p) (isz_z hu.2.2.2) h1 h2
  have h := un_red hu.2.1 hu.2.2.1 hu2 l.toNat
  generalize redK (nwpR m.w m.h p) l.toNat = R at *
  obtain ⟨X, Y, hX, hY, hXw, hYh, hw0⟩ := ix_XY hz (k := k) (by rw [← hi.2.2.1]; exact hk)
  rw [← h X Y ⟨by omega, hXw⟩ ⟨by omega, hYh⟩, pxA]
  congr 1
  have hd := Nat.div_add_mod k R.w.toNat
  rw [hX, hY] at hd
  have hw : ((R.w.toNat : Nat) : Int) = R.w := by omega
  have e : (Y : Int) * R.w + (X : Int) = (k : Int) := by
    rw [← hw, ← Int.natCast_mul, ← Int.natCast_add, Nat.mul_comm, hd]
  rw [e, Int.toNat_natCast]
theorem un_fin {m : Im} {p : Px} {l : Int} (hm : ichkE m = 0) (hE : nwpE m.w m.h p = 0) (ha : ¬ p.a = 0) (hl : 0 ≤ l ∧ l ≤ 4) : redE (nwpR m.w m.h p) l = 0 ∧ (0 < ((redR (nwpR m.w m.h p) l).p.length : Int) ∨ (m.p.length : Int) = 0) := by
  have hu := un_ok hE ha
  have hr := redE_0 hu.2.1 hl
  refine ⟨hr.1, ?_⟩
  have hi := ichk0 hm
  have hz := hi.1
  unfold Z0 at hz
  rcases (show m.w = 0 ∨ (1 ≤ m.w ∧ 1 ≤ m.h) by have := hi.2.1; omega) with h | h
  · right; rw [hi.2.2.1, nn, h]; simp
  · left
    rw [hr.2, (ichk0 (red_ok hu.2.1 _)).2.2.1, (red_sz _ _).1, (red_sz _ _).2, hu.1]
    have h1 := hfK_1 h.1 l.toNat
    have h2 := hfK_1 h.2 l.toNat
    have := Nat.mul_pos (show 0 < (hfK m.w l.toNat).toNat by omega) (show 0 < (hfK m.h l.toNat).toNat by omega)
    simp only [nn]
    omega
theorem mn_h {e l : Int} {p : Px} (hc : ((e = 0 ∧ ¬ p.a = 0) ∧ 0 ≤ l) ∧ l ≤ 4) : e = 0 ∧ ¬ p.a = 0 ∧ 0 ≤ l ∧ l ≤ 4 := ⟨hc.1.1.1, hc.1.1.2, hc.1.2, hc.2⟩
end Go.Rect

