import Derived.Test.YtgkflbibpkkegaaGreatDoorLF
set_option linter.unusedSimpArgs false
set_option linter.unusedVariables false
set_option linter.unusedSimpArgs false
set_option linter.unusedVariables false
namespace Go.Rect
open Go.Eng
def hfN (n : Int) : Int := (n + 1) / 2
def hfK (n : Int) : Nat → Int
  | 0 => n
  | k + 1 => hfN (hfK n k)
def lvI (l : Int) : Nat := (clampI l 0 4).toNat
def szK (n l : Int) : Int := hfK (clampI n 0 256) (lvI l)
def tlN (n : Int) : Int := (n + 15) / 16
def pxA (m : Im) (u v : Int) : Px := m.p.getD (v * m.w + u).toNat zP
def hfX (n x : Int) : Nat := (min (2 * x + 2) n - 2 * x).toNat
def hfR (m : Im) (x y : Int) (j k : Nat) : List Px := (List.range k).map fun (i : Nat) => pxA m (2 * x + i) (2 * y + j)
def hfL (m : Im) (x y : Int) (j k : Nat) : List Px := (List.range j).flatMap (fun j' => hfR m x y j' (hfX m.w x)) ++ hfR m x y j k
def hfA (m : Im) (x y : Int) : List Px := hfL m x y (hfX m.h y) 0
def smL (l : List Px) : Sm := l.foldl (fun s p => addS s p 1) zS
def meanL (l : List Px) : Px := meanS (smL l)
def hfP (m : Im) (x y : Int) : Px := meanL (hfA m x y)
def halfI (m : Im) : Im := ⟨hfN m.w, hfN m.h, tabP (nn (hfN m.w) (hfN m.h)) (gP (hfN m.w).toNat (hfP m))⟩
def redK (m : Im) : Nat → Im
  | 0 => m
  | k + 1 => halfI (redK m k)
def hfI (m : Im) : Im := if ichkE m = 0 then halfI m else zI
def redE (m : Im) (l : Int) : Int := if ichkE m ≠ 0 then ichkE m else if l < 0 ∨ 4 < l then 2 else 0
def redR (m : Im) (l : Int) : Im := if redE m l = 0 then redK m l.toNat else zI
def ndsR (w h l : Int) (out : Rc) : Rc :=
  if (((w < 1 ∨ 256 < w) ∨ (h < 1 ∨ 256 < h)) ∨ (l < 0 ∨ 4 < l)) ∨ emptyB out = true ∨ withinB out ⟨0, 0, szK w l, szK h l⟩ = false then zR
  else meetR ⟨2 ^ l.toNat * out.x, 2 ^ l.toNat * out.y, 2 ^ l.toNat * out.w, 2 ^ l.toNat * out.h⟩ ⟨0, 0, w, h⟩
def rfL (m : Im) (x y : Int) (n : Nat) : List Px := (List.range n).flatMap fun k => if 2 * x + ((k % 2 : Nat) : Int) < m.w ∧ 2 * y + ((k / 2 : Nat) : Int) < m.h then [pxA m (2 * x + ((k % 2 : Nat) : Int)) (2 * y + ((k / 2 : Nat) : Int))] else []
def loL (l : List Px) : Int := l.foldl (fun c p => if p.a < c then p.a else c) 65535
def hiL (l : List Px) : Int := l.foldl (fun c p => if c < p.a then p.a else c) 0
theorem hfN_bd {n : Int} (h : 0 ≤ n ∧ n ≤ 256) : 0 ≤ hfN n ∧ hfN n ≤ 256 := by unfold hfN; omega
theorem hfK_bd {n : Int} (h : 0 ≤ n ∧ n ≤ 256) : ∀ k, 0 ≤ hfK n k ∧ hfK n k ≤ 256
  | 0 => h
  | k + 1 => hfN_bd (hfK_bd h k)
theorem hfK_1 {n : Int} (h : 1 ≤ n) : ∀ k, 1 ≤ hfK n k
  | 0 => h
  | k + 1 => by have := hfK_1 h k; rw [hfK, hfN]; omega
theorem hfK_add (n : Int) (a : Nat) : ∀ b, hfK (hfK n a) b = hfK n (a + b)
  | 0 => rfl
  | b + 1 => by rw [hfK, hfK_add n a b]; rfl
theorem hfK_up {n : Int} (h : 0 ≤ n) : ∀ k : Nat, n ≤ 2 ^ k * hfK n k
  | 0 => by simp [hfK]
  | k + 1 => by
    have ih := hfK_up h k
    have e : (2 : Int) ^ (k + 1) * hfK n (k + 1) = 2 ^ k * (2 * hfN (hfK n k)) := by rw [Int.pow_succ, Int.mul_assoc]; rfl
    rw [e]
    have h2 : hfK n k ≤ 2 * hfN (hfK n k) := by unfold hfN; omega
    have := Int.mul_le_mul_of_nonneg_left h2 (show (0 : Int) ≤ 2 ^ k from Int.pow_nonneg (by omega))
    omega
theorem clp_id {n : Int} (h : 0 ≤ n ∧ n ≤ 256) : clampI n 0 256 = n := by unfold clampI; omega
theorem lv_id {l : Int} (h : 0 ≤ l ∧ l ≤ 4) : lvI l = l.toNat := by unfold lvI clampI; omega
theorem szK_eq {n l : Int} (h : 0 ≤ n ∧ n ≤ 256) (hl : 0 ≤ l ∧ l ≤ 4) : szK n l = hfK n l.toNat := by rw [szK, clp_id h, lv_id hl]
theorem szK_bd (n l : Int) : 0 ≤ szK n l ∧ szK n l ≤ 256 := hfK_bd (by unfold clampI; omega) _
theorem px_tab {W H : Int} {F : Int → Int → Px} {u v : Int} (hz : Z0 W H) (hu : 0 ≤ u ∧ u < W) (hv : 0 ≤ v ∧ v < H) : pxA ⟨W, H, tabP (nn W H) (gP W.toNat F)⟩ u v = F u v := by
  obtain ⟨a, rfl⟩ := Int.eq_ofNat_of_zero_le hu.1
  obtain ⟨b, rfl⟩ := Int.eq_ofNat_of_zero_le hv.1
  have := yxI (y := b) (x := a) hz hv.2 hu.2
  rw [pxA, this.1, Int.toNat_natCast, tabP_get this.2.1, gP_at (by omega)]
theorem px_ok {m : Im} {u v : Int} (hm : ichkE m = 0) (hu : 0 ≤ u ∧ u < m.w) (hv : 0 ≤ v ∧ v < m.h) : validP (pxA m u v) = true := (ichk0 hm).2.2.2 _ (pkp_ix hm ⟨hu, hv⟩).2.2.1
theorem px_pk {m : Im} {u v : Int} (hu : 0 ≤ u ∧ u < m.w) (hv : 0 ≤ v ∧ v < m.h) : pickP m u v = pxA m u v := by rw [pickP, if_pos ⟨hu, hv⟩]; rfl
theorem hfX_le (n x : Int) : hfX n x ≤ 2 := by unfold hfX; omega
theorem hfX_2 {n x : Int} (h : 2 * x + 1 < n) : hfX n x = 2 := by unfold hfX; omega
theorem hfX_1 {n x : Int} (h : x < hfN n) (h2 : n ≤ 2 * x + 1) : hfX n x = 1 := by unfold hfX hfN at *; omega
theorem hfX_ps {n x : Int} (h : x < hfN n) : 0 < hfX n x := by unfold hfX hfN at *; omega
theorem hfX_in {n x : Int} {i : Nat} (hx : 0 ≤ x) (h : i < hfX n x) : 0 ≤ 2 * x + i ∧ 2 * x + i < n := by unfold hfX at h; omega
theorem rfL_4 {m : Im} {x y : Int} (hx : 0 ≤ x ∧ x < hfN m.w) (hy : 0 ≤ y ∧ y < hfN m.h) : rfL m x y 4 = hfA m x y := by
  have hx0 : 2 * x < m.w := by unfold hfN at hx; omega
  have hy0 : 2 * y < m.h := by unfold hfN at hy; omega
  rcases (show 2 * x + 1 < m.w ∨ m.w ≤ 2 * x + 1 by omega) with h1 | h1 <;> rcases (show 2 * y + 1 < m.h ∨ m.h ≤ 2 * y + 1 by omega) with h2 | h2
  · simp [rfL, hfA, hfL, hfR, List.range_succ, hfX_2 h1, hfX_2 h2, h1, h2, hx0, hy0]
  · simp [rfL, hfA, hfL, hfR, List.range_succ, hfX_2 h1, hfX_1 hy.2 h2, h1, Int.not_lt.2 h2, hx0, hy0]
  · simp [rfL, hfA, hfL, hfR, List.range_succ, hfX_1 hx.2 h1, hfX_2 h2, Int.not_lt.2 h1, h2, hx0, hy0]
  · simp [rfL, hfA, hfL, hfR, List.range_succ, hfX_1 hx.2 h1, hfX_1 hy.2 h2, Int.not_lt.2 h1, Int.not_lt.2 h2, hx0, hy0]
theorem mem_hfA {m : Im} {x y : Int} {p : Px} (hx : 0 ≤ x) (hy : 0 ≤ y) (h : p ∈ hfA m x y) : ∃ u v, (0 ≤ u ∧ u < m.w) ∧ (0 ≤ v ∧ v < m.h) ∧ p = pxA m u v := by
  simp only [hfA, hfL, hfR, List.range_zero, List.map_nil, List.append_nil, List.mem_flatMap, List.mem_range, List.mem_map] at h
  obtain ⟨j, hj, i, hi, rfl⟩ := h
  exact ⟨_, _, hfX_in hx hi, hfX_in hy hj, rfl⟩
theorem hfA_len (m : Im) (x y : Int) : (hfA m x y).length = hfX m.h y * hfX m.w x := by
  have : ∀ j, ((List.range j).flatMap (fun j' => hfR m x y j' (hfX m.w x))).length = j * hfX m.w x := fun j => by
    induction j with
    | zero => simp
    | succ j ih => rw [List.range_succ, List.flatMap_append, List.length_append, ih, Nat.succ_mul]; simp [hfR]
  simp only [hfA, hfL, List.length_append, this]; simp [hfR]
theorem hfA_ps {m : Im} {x y : Int} (hx : x < hfN m.w) (hy : y < hfN m.h) : 0 < (hfA m x y).length := by
  rw [hfA_len]; exact Nat.mul_pos (hfX_ps hy) (hfX_ps hx)
theorem hfA_le (m : Im) (x y : Int) : (hfA m x y).length ≤ 4 := by
  rw [hfA_len]; exact Nat.mul_le_mul (hfX_le _ _) (hfX_le _ _)
theorem smL_ok : ∀ (l : List Px) (s : Sm), SmOk s → s.w + l.length ≤ 268435456 → (∀ p ∈ l, validP p = true) → SmOk (l.foldl (fun s p => addS s p 1) s) ∧ (l.foldl (fun s p => addS s p 1) s).w = s.w + l.length
  | [], s, hs, _, _ => ⟨hs, by simp⟩
  | p :: l, s, hs, hl, hp => by
    simp only [List.length_cons] at hl
    have h1 := (add_ok hs (hp p (by simp)) (show (0 : Int) ≤ 1 by omega) (by omega)).1
    have h2 := smL_ok l (addS s p 1) h1 (by simp only [addS]; omega) (fun q hq => hp q (by simp [hq]))
    rw [List.foldl_cons]
    refine ⟨h2.1, h2.2.trans ?_⟩
    simp only [addS, List.length_cons]; omega
theorem sm_ok {l : List Px} (hl : l.length ≤ 4) (hp : ∀ p ∈ l, validP p = true) : SmOk (smL l) ∧ (smL l).w = l.length := by
  have := smL_ok l zS zS_ok (by simp only [zS]; omega) hp
  refine ⟨this.1, this.2.trans ?_⟩
  simp [zS]
theorem hfA_ok {m : Im} {x y : Int} (hm : ichkE m = 0) (hx : 0 ≤ x) (hy : 0 ≤ y) : ∀ p ∈ hfA m x y, validP p = true := fun p hp => by
  obtain ⟨u, v, hu, hv, rfl⟩ := mem_hfA hx hy hp
  exact px_ok hm hu hv
theorem hfP_ok {m : Im} {x y : Int} (hm : ichkE m = 0) (hx : 0 ≤ x) (hy : 0 ≤ y) : validP (hfP m x y) = true := mean_ok (sm_ok (hfA_le m x y) (hfA_ok hm hx hy)).1
theorem half_z {m : Im} (hm : ichkE m = 0) : Z0 (hfN m.w) (hfN m.h) := by
  have := (ichk0 hm).1
  unfold Z0 hfN at *; omega
theorem half_ok {m : Im} (hm : ichkE m = 0) : ichkE (halfI m) = 0 := by
  have hz := half_z hm
  have h0 := (ichk0 hm).2.1
  have h1 := (ichk0 hm).1
  unfold Z0 at h1
  refine ich_of (isz_T ⟨by unfold Z0 at hz; omega, ?_⟩) fun j hj => hfP_ok hm (Int.natCast_nonneg _) (Int.natCast_nonneg _)
  rw [Bool.eq_iff_iff]; simp only [beq_iff_eq]
  unfold hfN; omega
theorem red_ok {m : Im} (hm : ichkE m = 0) : ∀ k, ichkE (redK m k) = 0
  | 0 => hm
  | k + 1 => half_ok (red_ok hm k)
theorem red_sz (m : Im) : ∀ k, (redK m k).w = hfK m.w k ∧ (redK m k).h = hfK m.h k
  | 0 => ⟨rfl, rfl⟩
  | k + 1 => by
    have := red_sz m k
    exact ⟨by show hfN (redK m k).w = _; rw [this.1]; rfl, by show hfN (redK m k).h = _; rw [this.2]; rfl⟩
theorem red_add (m : Im) (a : Nat) : ∀ b, redK (redK m a) b = redK m (a + b)
  | 0 => rfl
  | b + 1 => by rw [redK, red_add m a b]; rfl
def prtI (m : Im) (r : Rc) : Im := ⟨r.w, r.h, tabP (nn r.w r.h) (gP r.w.toNat (crpF m r))⟩
def InI (r : Rc) (w h : Int) : Prop := (0 ≤ r.x ∧ 1 ≤ r.w ∧ r.x + r.w ≤ w) ∧ (0 ≤ r.y ∧ 1 ≤ r.h ∧ r.y + r.h ≤ h)
def dbR (w h : Int) (r : Rc) : Rc := ⟨2 * r.x, 2 * r.y, min (2 * r.w) (w - 2 * r.x), min (2 * r.h) (h - 2 * r.y)⟩
theorem db_in {w h : Int} {r : Rc} (hi : InI r (hfN w) (hfN h)) : InI (dbR w h r) w h ∧ hfN (dbR w h r).w = r.w ∧ hfN (dbR w h r).h = r.h := by
  unfold InI dbR hfN at *
  simp only
  omega
theorem hfR_ext {m c : Im} {x y X Y : Int} {j k : Nat} (h : ∀ i, i < k → pxA c (2 * X + (i : Nat)) (2 * Y + j) = pxA m (2 * x + (i : Nat)) (2 * y + j)) : hfR c X Y j k = hfR m x y j k :=
  List.map_congr_left fun i hi => h i (List.mem_range.1 hi)
theorem hfA_prt {m : Im} {r : Rc} (hm : ichkE m = 0) (hi : InI r (hfN m.w) (hfN m.h)) {X Y : Int} (hX : 0 ≤ X ∧ X < r.w) (hY : 0 ≤ Y ∧ Y < r.h) :
    hfA (prtI m (dbR m.w m.h r)) X Y = hfA m (r.x + X) (r.y + Y) := by
  have hd := db_in hi
  have hz := (ichk0 hm).1
  have ew : hfX (dbR m.w m.h r).w X = hfX m.w (r.x + X) := by unfold hfX dbR InI hfN at *; simp only at *; omega
  have eh : hfX (dbR m.w m.h r).h Y = hfX m.h (r.y + Y) := by unfold hfX dbR InI hfN at *; simp only at *; omega
  have hp : ∀ (i j : Nat), i < hfX m.w (r.x + X) → j < hfX m.h (r.y + Y) → pxA (prtI m (dbR m.w m.h r)) (2 * X + i) (2 * Y + j) = pxA m (2 * (r.x + X) + i) (2 * (r.y + Y) + j) := fun i j h1 h2 => by
    rw [← ew] at h1; rw [← eh] at h2
    have a1 := hfX_in hX.1 h1
    have a2 := hfX_in hY.1 h2
    have hin := hd.1
    have hz2 : Z0 (dbR m.w m.h r).w (dbR m.w m.h r).h := by unfold InI at hin; unfold Z0 at *; omega
    rw [prtI, px_tab hz2 a1 a2, crpF, px_pk]
    · congr 1 <;> (simp only [dbR]; omega)
    · unfold InI at hin; omega
    · unfold InI at hin; omega
  simp only [hfA, hfL]
  rw [show (prtI m (dbR m.w m.h r)).h = (dbR m.w m.h r).h from rfl, show (prtI m (dbR m.w m.h r)).w = (dbR m.w m.h r).w from rfl, eh, ew]
  congr 1
  rw [List.flatMap_def, List.flatMap_def]
  congr 1
  exact List.map_congr_left fun j hj => hfR_ext fun i h1 => hp i j h1 (List.mem_range.1 hj)
theorem half_prt {m : Im} {r : Rc} (hm : ichkE m = 0) (hi : InI r (hfN m.w) (hfN m.h)) : halfI (prtI m (dbR m.w m.h r)) = prtI (halfI m) r := by
  have hd := db_in hi
  have hz := half_z hm
  have hr : Z0 r.w r.h := by unfold InI at hi; unfold Z0 at *; omega
  have e1 : hfN (prtI m (dbR m.w m.h r)).w = r.w := hd.2.1
  have e2 : hfN (prtI m (dbR m.w m.h r)).h = r.h := hd.2.2
  have e3 : prtI (halfI m) r = ⟨r.w, r.h, tabP (nn r.w r.h) (gP r.w.toNat (crpF (halfI m) r))⟩ := rfl
  rw [halfI, e1, e2, e3]
  congr 1
  refine tabP_ext fun k hk => ?_
  have hw : 0 < r.w.toNat := by unfold InI at hi; omega
  have h1 := Nat.mod_lt k hw
  have h2 : k / r.w.toNat < r.h.toNat := Nat.div_lt_of_lt_mul hk
  show hfP (prtI m (dbR m.w m.h r)) ((k % r.w.toNat : Nat) : Int) ((k / r.w.toNat : Nat) : Int) = crpF (halfI m) r ((k % r.w.toNat : Nat) : Int) ((k / r.w.toNat : Nat) : Int)
  generalize k % r.w.toNat = X at *
  generalize k / r.w.toNat = Y at *
  rw [hfP, hfA_prt hm hi (by omega) (by omega), crpF, px_pk (by show _ ∧ _ < hfN m.w; unfold InI at hi; omega) (by show _ ∧ _ < hfN m.h; unfold InI at hi; omega)]
  show _ = pxA (halfI m) _ _
  rw [halfI, px_tab hz (by unfold InI at hi; omega) (by unfold InI at hi; omega)]; rfl
def ndK (m : Im) (r : Rc) : Nat → Rc
  | 0 => r
  | k + 1 => ndK m (dbR (redK m k).w (redK m k).h r) k
theorem ndk_in {m : Im} : ∀ (k : Nat) {r : Rc}, InI r (redK m k).w (redK m k).h → InI (ndK m r k) m.w m.h
  | 0, _, h => h
  | k + 1, _, h => ndk_in k (db_in h).1
theorem red_prt {m : Im} (hm : ichkE m = 0) : ∀ (k : Nat) {r : Rc}, InI r (redK m k).w (redK m k).h → redK (prtI m (ndK m r k)) k = prtI (redK m k) r
  | 0, _, _ => rfl
  | k + 1, r, h => by
    show halfI (redK (prtI m (ndK m (dbR (redK m k).w (redK m k).h r) k)) k) = prtI (halfI (redK m k)) r
    rw [red_prt hm k (db_in h).1, half_prt (red_ok hm k) h]
theorem mul_min2 {p a b : Int} (h : 0 ≤ p) : p * min a b = min (p * a) (p * b) := by
  rcases Int.le_total a b with h1 | h1
  · have := Int.mul_le_mul_of_nonneg_left h1 h; rw [Int.min_eq_left h1, Int.min_eq_left this]
  · have := Int.mul_le_mul_of_nonneg_left h1 h; rw [Int.min_eq_right h1, Int.min_eq_right this]
theorem nd_eq {m : Im} (hm : ichkE m = 0) : ∀ (k : Nat) {r : Rc}, InI r (redK m k).w (redK m k).h →
    ndK m r k = ⟨2 ^ k * r.x, 2 ^ k * r.y, min (2 ^ k * r.w) (m.w - 2 ^ k * r.x), min (2 ^ k * r.h) (m.h - 2 ^ k * r.y)⟩
  | 0, r, h => by
    have h' : InI r m.w m.h := h
    unfold InI at h'
    obtain ⟨x, y, w, hh⟩ := r
    simp only [ndK, Int.pow_zero, Int.one_mul]
    simp only at h'
    congr 1 <;> omega
  | k + 1, r, h => by
    have hz := (ichk0 hm).1
    unfold Z0 at hz
    have ih := nd_eq hm k (db_in h).1
    show ndK m (dbR (redK m k).w (redK m k).h r) k = _
    rw [ih]
    have hp : (0 : Int) ≤ 2 ^ k := Int.pow_nonneg (by omega)
    have u1 := hfK_up (n := m.w) (by omega) k
    have u2 := hfK_up (n := m.h) (by omega) k
    simp only [dbR, (red_sz m k).1, (red_sz m k).2, mul_min2 hp, Int.mul_sub]
    have e : ∀ a : Int, 2 ^ k * (2 * a) = 2 ^ (k + 1) * a := fun a => by rw [Int.pow_succ, Int.mul_assoc]
    simp only [e]
    congr 1 <;> omega
end Go.Rect

