import Derived.Test.YtgkflbibpkkegaaGreatDoorMA
set_option linter.unusedSimpArgs false
set_option linter.unusedVariables false
set_option linter.unusedSimpArgs false
set_option linter.unusedVariables false
namespace Go.Rect
open Go.Eng
theorem ind_in {w h : Int} {out : Rc} (hw : 1 ≤ w ∧ w ≤ 256) (hh : 1 ≤ h ∧ h ≤ 256) (he : emptyB out = false) (hi : withinB out ⟨0, 0, w, h⟩ = true) : InI out w h := by
  rcases within_spec.1 hi with h1 | ⟨h1, h2, h3, h4, h5⟩
  · rw [he] at h1; cases h1
  · have := empty_spec.1 he
    simp only at h2 h3 h4 h5
    unfold InI; omega
theorem in_ne {w h : Int} {r : Rc} (hw : w ≤ 256) (hh : h ≤ 256) (hi : InI r w h) : emptyB r = false := by
  rw [empty_spec]; unfold InI at hi; omega
theorem pow_le {k : Nat} (h : k ≤ 4) : (1 : Int) ≤ 2 ^ k ∧ (2 : Int) ^ k ≤ 16 := by
  have : k = 0 ∨ k = 1 ∨ k = 2 ∨ k = 3 ∨ k = 4 := by omega
  rcases this with rfl | rfl | rfl | rfl | rfl <;> decide
def scR (l : Int) (out : Rc) : Rc := ⟨2 ^ l.toNat * out.x, 2 ^ l.toNat * out.y, 2 ^ l.toNat * out.w, 2 ^ l.toNat * out.h⟩
theorem sc_bd {p a : Int} (hp : 1 ≤ p ∧ p ≤ 16) (ha : 0 ≤ a ∧ a ≤ 256) : a ≤ p * a ∧ p * a ≤ 4096 := by
  have h1 := Int.mul_le_mul_of_nonneg_right hp.1 ha.1
  have h2 := Int.mul_le_mul hp.2 ha.2 ha.1 (show (0 : Int) ≤ 16 by omega)
  omega
theorem nds_cases {m : Im} {l : Int} {out : Rc} (hm : ichkE m = 0) :
    ndsR m.w m.h l out = zR ∨ ((0 ≤ l ∧ l ≤ 4) ∧ emptyB out = false ∧ InI out (redK m l.toNat).w (redK m l.toNat).h ∧ ndsR m.w m.h l out = ndK m out l.toNat) := by
  by_cases h0 : ((((m.w < 1 ∨ 256 < m.w) ∨ (m.h < 1 ∨ 256 < m.h)) ∨ (l < 0 ∨ 4 < l)) ∨ emptyB out = true ∨ withinB out ⟨0, 0, szK m.w l, szK m.h l⟩ = false)
  · left; rw [ndsR, if_pos h0]
  · right
    have hz := (ichk0 hm).1
    unfold Z0 at hz
    have hl : 0 ≤ l ∧ l ≤ 4 := by omega
    have he : emptyB out = false := by rw [← Bool.not_eq_true]; exact fun h => h0 (.inr (.inl h))
    have hi : withinB out ⟨0, 0, szK m.w l, szK m.h l⟩ = true := by rw [← Bool.not_eq_false]; exact fun h => h0 (.inr (.inr h))
    rw [szK_eq (by omega) hl, szK_eq (by omega) hl] at hi
    have b1 := hfK_bd (n := m.w) (by omega) l.toNat
    have b2 := hfK_bd (n := m.h) (by omega) l.toNat
    have c1 := hfK_1 (n := m.w) (by omega) l.toNat
    have c2 := hfK_1 (n := m.h) (by omega) l.toNat
    have hin := ind_in ⟨c1, b1.2⟩ ⟨c2, b2.2⟩ he hi
    have hin' : InI out (redK m l.toNat).w (redK m l.toNat).h := by rw [(red_sz m _).1, (red_sz m _).2]; exact hin
    refine ⟨hl, he, hin', ?_⟩
    rw [nd_eq hm _ hin', ndsR, if_neg h0]
    have hp := pow_le (k := l.toNat) (by omega)
    have u1 := hfK_up (n := m.w) (by omega) l.toNat
    have u2 := hfK_up (n := m.h) (by omega) l.toNat
    have hnd := ndk_in _ hin'
    rw [nd_eq hm _ hin'] at hnd
    generalize (2 : Int) ^ l.toNat = p at *
    have hI := hin
    unfold InI at hI hnd
    simp only at hnd
    have s1 := sc_bd hp (a := out.x) (by omega)
    have s2 := sc_bd hp (a := out.y) (by omega)
    have s3 := sc_bd hp (a := out.w) (by omega)
    have s4 := sc_bd hp (a := out.h) (by omega)
    have e1 : emptyB ⟨p * out.x, p * out.y, p * out.w, p * out.h⟩ = false := by rw [empty_spec]; simp only; omega
    have e2 : emptyB ⟨0, 0, m.w, m.h⟩ = false := by rw [empty_spec]; simp only; omega
    rw [meetR, e1, e2]
    simp only [Bool.or_self, Bool.false_eq_true, if_false]
    rw [betweenR, if_neg (by omega)]
    try simp only
    congr 1 <;> omega
theorem prt_crp {m : Im} {r : Rc} (hm : ichkE m = 0) (hi : InI r m.w m.h) : crpR m r = prtI m r ∧ crpE m r = 0 ∧ ichkE (prtI m r) = 0 := by
  have hz := (ichk0 hm).1
  unfold Z0 at hz
  have he := in_ne (by omega) (by omega) hi
  have hI := hi
  unfold InI at hI
  have hv : validB r = true := valid_spec.2 (by have := empty_spec.1 he; omega)
  have h := crq5 hm hv (by omega) he
  refine ⟨h.1, h.2, ?_⟩
  refine ich_of (isz_T ⟨by omega, ?_⟩) fun j hj => ?_
  · rw [Bool.eq_iff_iff]; simp only [beq_iff_eq]; omega
  · exact pkp_ok hm
theorem redE_0 {m : Im} {l : Int} (hm : ichkE m = 0) (hl : 0 ≤ l ∧ l ≤ 4) : redE m l = 0 ∧ redR m l = redK m l.toNat := by
  have e : redE m l = 0 := by rw [redE, if_neg (by omega), if_neg (by omega)]
  exact ⟨e, by rw [redR, if_pos e]⟩
theorem parts_law {m : Im} {l : Int} {out : Rc} (hm : ichkE m = 0) (hn : emptyB (ndsR m.w m.h l out) = false) :
    redE m l = 0 ∧ crpE (redR m l) out = 0 ∧ crpE m (ndsR m.w m.h l out) = 0 ∧ redE (crpR m (ndsR m.w m.h l out)) l = 0 ∧ crpR (redR m l) out = redR (crpR m (ndsR m.w m.h l out)) l := by
  rcases nds_cases (l := l) (out := out) hm with h | ⟨hl, he, hi, h⟩
  · rw [h] at hn; exact absurd hn (by decide)
  · have h1 := redE_0 hm hl
    have hr := red_ok hm l.toNat
    have h2 := prt_crp hr hi
    have h3 := prt_crp hm (ndk_in _ hi)
    rw [h, h1.2, h3.1, h2.1]
    have h4 := redE_0 h3.2.2 hl
    refine ⟨h1.1, h2.2.1, h3.2.1, h4.1, ?_⟩
    rw [h4.2, red_prt hm _ hi]
theorem parts_zero {m : Im} {l : Int} {out : Rc} (hm : ichkE m = 0) (hn : emptyB (ndsR m.w m.h l out) = true) : ndsR m.w m.h l out = zR := by
  rcases nds_cases (l := l) (out := out) hm with h | ⟨hl, he, hi, h⟩
  · exact h
  · have hz := (ichk0 hm).1
    unfold Z0 at hz
    have := in_ne (by omega) (by omega) (ndk_in _ hi)
    rw [← h, hn] at this; cases this
theorem steps_law {m : Im} {a b : Int} (hm : ichkE m = 0) (ha : 0 ≤ a ∧ a ≤ 4) (hb : 0 ≤ b ∧ b ≤ 4 - a) :
    redE m a = 0 ∧ redE (redR m a) b = 0 ∧ redE m (a + b) = 0 ∧ redR (redR m a) b = redR m (a + b) ∧ (redR m a).w = szK m.w a ∧ (redR m a).h = szK m.h a ∧ (redR m (a + b)).w = szK (szK m.w a) b ∧ (redR m (a + b)).h = szK (szK m.h a) b := by
  have hz := (ichk0 hm).1
  unfold Z0 at hz
  have h1 := redE_0 hm ha
  have h2 := redE_0 hm (l := a + b) (by omega)
  have h3 := redE_0 (red_ok hm a.toNat) (l := b) (by omega)
  have s1 := red_sz m a.toNat
  have s2 := red_sz m (a + b).toNat
  have b1 := hfK_bd (n := m.w) (by omega) a.toNat
  have b2 := hfK_bd (n := m.h) (by omega) a.toNat
  rw [h1.2, h2.2, h3.2]
  refine ⟨h1.1, h3.1, h2.1, ?_, ?_, ?_, ?_, ?_⟩
  · rw [red_add, show a.toNat + b.toNat = (a + b).toNat from by omega]
  · rw [szK_eq (by omega) ha, s1.1]
  · rw [szK_eq (by omega) ha, s1.2]
  · rw [szK_eq (n := m.w) (by omega) ha, szK_eq b1 (by omega), hfK_add, s2.1, show a.toNat + b.toNat = (a + b).toNat from by omega]
  · rw [szK_eq (n := m.h) (by omega) ha, szK_eq b2 (by omega), hfK_add, s2.2, show a.toNat + b.toNat = (a + b).toNat from by omega]
theorem lo_f : ∀ (l : List Px) (c : Int), l.foldl (fun c p => if p.a < c then p.a else c) c ≤ c ∧ ∀ p ∈ l, l.foldl (fun c p => if p.a < c then p.a else c) c ≤ p.a
  | [], c => ⟨Int.le_refl _, fun p h => by cases h⟩
  | q :: l, c => by
    have ih := lo_f l (if q.a < c then q.a else c)
    rw [List.foldl_cons]
    refine ⟨by have := ih.1; split at this <;> omega, fun p hp => ?_⟩
    rcases List.mem_cons.1 hp with rfl | hp
    · have := ih.1; split at this <;> omega
    · exact ih.2 p hp
theorem hi_f : ∀ (l : List Px) (c : Int), c ≤ l.foldl (fun c p => if c < p.a then p.a else c) c ∧ ∀ p ∈ l, p.a ≤ l.foldl (fun c p => if c < p.a then p.a else c) c
  | [], c => ⟨Int.le_refl _, fun p h => by cases h⟩
  | q :: l, c => by
    have ih := hi_f l (if c < q.a then q.a else c)
    rw [List.foldl_cons]
    refine ⟨by have := ih.1; split at this <;> omega, fun p hp => ?_⟩
    rcases List.mem_cons.1 hp with rfl | hp
    · have := ih.1; split at this <;> omega
    · exact ih.2 p hp
theorem sum_bd {lo hi : Int} : ∀ (l : List Px) (s : Sm), (lo * s.w ≤ s.a ∧ s.a ≤ hi * s.w) → (∀ p ∈ l, lo ≤ p.a ∧ p.a ≤ hi) → lo * (l.foldl (fun s p => addS s p 1) s).w ≤ (l.foldl (fun s p => addS s p 1) s).a ∧ (l.foldl (fun s p => addS s p 1) s).a ≤ hi * (l.foldl (fun s p => addS s p 1) s).w
  | [], s, hs, _ => hs
  | q :: l, s, hs, hp => by
    rw [List.foldl_cons]
    refine sum_bd l _ ?_ fun p h => hp p (by simp [h])
    have := hp q (by simp)
    simp only [addS, Int.mul_add, Int.mul_one, Int.one_mul]
    omega
theorem mean_al {s : Sm} (hw : 0 < s.w) (h0 : 0 ≤ s.a) : (meanS s).a = divI s.a s.w := by
  unfold meanS
  split
  · next h => rw [h, divI_0 (by omega)]; rfl
  · split
    · next h => rw [h]; rfl
    · rfl
theorem mean_bd {m : Im} {x y : Int} (hm : ichkE m = 0) (hx : 0 ≤ x ∧ x < hfN m.w) (hy : 0 ≤ y ∧ y < hfN m.h) : loL (rfL m x y 4) ≤ (hfP m x y).a ∧ (hfP m x y).a ≤ hiL (rfL m x y 4) := by
  rw [rfL_4 hx hy]
  have hok := sm_ok (hfA_le m x y) (hfA_ok hm hx.1 hy.1)
  have hps := hfA_ps hx.2 hy.2
  have hle := hfA_le m x y
  have hs := sum_bd (lo := loL (hfA m x y)) (hi := hiL (hfA m x y)) (hfA m x y) zS (by simp [zS]) fun p hp => ⟨(lo_f _ 65535).2 p hp, (hi_f _ 0).2 p hp⟩
  have hA := hok.1
  unfold SmOk at hA
  rw [hfP, meanL, mean_al (by omega) hA.2.2.1]
  have hs' : loL (hfA m x y) * (smL (hfA m x y)).w ≤ (smL (hfA m x y)).a ∧ (smL (hfA m x y)).a ≤ hiL (hfA m x y) * (smL (hfA m x y)).w := hs
  have hw := hok.2
  generalize (smL (hfA m x y)).w = w at *
  generalize (smL (hfA m x y)).a = a at *
  generalize loL (hfA m x y) = lo at *
  generalize hiL (hfA m x y) = hi at *
  have : w = 1 ∨ w = 2 ∨ w = 3 ∨ w = 4 := by omega
  unfold divI
  rcases this with rfl | rfl | rfl | rfl <;> omega
theorem un_half {m : Im} {p : Px} (hm : ichkE m = 0) (ha : 0 < p.a) (hu : ∀ u v, 0 ≤ u ∧ u < m.w → 0 ≤ v ∧ v < m.h → pxA m u v = p) {x y : Int} (hx : 0 ≤ x ∧ x < hfN m.w) (hy : 0 ≤ y ∧ y < hfN m.h) : hfP m x y = p := by
  have hok := sm_ok (hfA_le m x y) (hfA_ok hm hx.1 hy.1)
  have hps := hfA_ps hx.2 hy.2
  refine un_mean (foldl_inv (I := fun s => UnS s p) _ _ (un_z p) fun q hq b hb => ?_) (by omega) ha
  obtain ⟨u, v, h1, h2, rfl⟩ := mem_hfA hx.1 hy.1 hq
  rw [hu u v h1 h2]
  exact un_add hb 1
theorem un_red {m : Im} {p : Px} (hm : ichkE m = 0) (ha : 0 < p.a) (hu : ∀ u v, 0 ≤ u ∧ u < m.w → 0 ≤ v ∧ v < m.h → pxA m u v = p) : ∀ k u v, 0 ≤ u ∧ u < (redK m k).w → 0 ≤ v ∧ v < (redK m k).h → pxA (redK m k) u v = p
  | 0, u, v, h1, h2 => hu u v h1 h2
  | k + 1, u, v, h1, h2 => by
    have h1' : 0 ≤ u ∧ u < hfN (redK m k).w := h1
    have h2' : 0 ≤ v ∧ v < hfN (redK m k).h := h2
    show pxA (halfI (redK m k)) u v = p
    rw [halfI, px_tab (half_z (red_ok hm k)) h1' h2']
    exact un_half (red_ok hm k) ha (un_red hm ha hu k) h1' h2'
end Go.Rect

