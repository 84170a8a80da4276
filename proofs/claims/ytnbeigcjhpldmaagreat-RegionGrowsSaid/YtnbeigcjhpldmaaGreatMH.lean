import Derived.Test.YtnbeigcjhpldmaaGreatMG
set_option linter.unusedSimpArgs false
set_option linter.unusedVariables false
set_option linter.unusedSimpArgs false
set_option linter.unusedVariables false
namespace Go.Rect
open Go.Eng
theorem tl_len (a : List Rc) : (lstA (tlS a)).length ≤ 17179869184 := by
  have h := nod_len (ltP_nod (lstA_srt (tlS_can a))) (m := gridL (-65536) (-65536) 131072 131072) fun t ht => by
    obtain ⟨r, hr, h⟩ := (tlS_mem a t).1 ht
    have he := els_wd a r hr
    have hs := empty_spec.1 he
    have := (tr_in he _ _).1 h
    unfold tileI at this
    exact mem_grid (by omega)
  rw [grid_len] at h
  exact h
theorem tlC_wd (a : List Rc) : Wd (tlC a) := cano_wd (how := 0) (a := trL a) (b := [])
theorem arK_tl (a : List Rc) : arK (tlC a) (tlC a).length = ((lstA (tlS a)).length : Int) := by
  have hl := tl_len a
  rw [arK_w (tlC_wd a) _ (Nat.le_refl _), List.take_length, ar_tl, w64 (by omega) (by omega)]
def trK (l : List Rc) (k : Nat) : List Rc := (l.take k).map trR ++ l.drop k
theorem trK_0 (l : List Rc) : trK l 0 = l := by simp [trK]
theorem trK_all {a : List Rc} {k : Nat} (h : ((els a).length : Int) ≤ (k : Int)) : trK (els a) k = trL a := by
  rw [trK, take_all h, List.drop_of_length_le (by omega), List.append_nil]; rfl
theorem trK_len {l : List Rc} {k : Nat} (h : k ≤ l.length) : (trK l k).length = l.length := by simp [trK]; omega
theorem trK_at {l : List Rc} {k : Nat} (h : (k : Int) < (l.length : Int)) : (trK l k).getD k zR = l.getD k zR := by
  rw [trK, List.getD_eq_getElem?_getD, List.getElem?_append_right (by simp; omega)]
  simp only [List.length_map, List.length_take]
  rw [List.getElem?_drop, List.getD_eq_getElem?_getD]
  congr 2; omega
theorem trK_s {l : List Rc} {k : Nat} (h : (k : Int) < (l.length : Int)) : ((trK l k).map rcC).set k (rcC (trR (l.getD k zR))) = (trK l (k + 1)).map rcC := by
  have hk : k < l.length := by omega
  rw [← List.map_set]
  congr 1
  rw [trK, List.set_append_right _ _ (by simp; omega), trK, take_s zR hk, List.map_append, List.drop_eq_getElem_cons hk]
  simp only [List.length_map, List.length_take, Nat.min_eq_left (Nat.le_of_lt hk), Nat.sub_self, List.set_cons_zero, List.map_cons, List.map_nil, List.append_assoc, List.cons_append, List.nil_append]
def zB : Bd := ⟨0, 0, []⟩
def tB (a : List Rc) (m : Nat) : Bd := (tlS a).getD m zB
def tI (a : List Rc) (m : Nat) : Nat := (flatB ((tlS a).take m)).length
theorem fB_app (p q : List Bd) : flatB (p ++ q) = flatB p ++ flatB q := by simp [flatB]
theorem fB_cons (b : Bd) (q : List Bd) : flatB (b :: q) = b.rs.map (rnR b.y b.h) ++ flatB q := rfl
theorem can_mem : ∀ {l : List Bd}, CanB l → ∀ b ∈ l, b.rs ≠ [] ∧ Mx b.rs ∧ 0 < b.h
  | [], _, _, h => by cases h
  | b :: l, hc, c, h => by
    rcases List.mem_cons.1 h with rfl | h
    · exact hc.1
    · exact can_mem hc.2.2 c h
theorem can_pw : ∀ {l : List Bd}, CanB l → l.Pairwise fun b c => b.y + b.h ≤ c.y
  | [], _ => List.Pairwise.nil
  | b :: l, hc => by
    refine List.pairwise_cons.2 ⟨fun c hm => ?_, can_pw hc.2.2⟩
    have h := can_mem hc.2.2 c hm
    obtain ⟨x, hx⟩ := rs_pt h.1 h.2.1
    exact cb_tl hc ⟨c, hm, ⟨Int.le_refl _, by omega⟩, hx⟩
theorem tB_mem {a : List Rc} {m : Nat} (h : m < (tlS a).length) : tB a m ∈ tlS a := gD_mem h
theorem tB_ok {a : List Rc} {m : Nat} (h : m < (tlS a).length) : (tB a m).rs ≠ [] ∧ Mx (tB a m).rs ∧ 0 < (tB a m).h := can_mem (tlS_can a) _ (tB_mem h)
theorem tB_ps {a : List Rc} {m : Nat} (h : m < (tlS a).length) : 0 < (tB a m).rs.length := List.length_pos_iff.2 (tB_ok h).1
theorem tS_split {a : List Rc} {m : Nat} (h : m < (tlS a).length) : tlS a = (tlS a).take m ++ tB a m :: (tlS a).drop (m + 1) := by
  have e : tB a m = (tlS a)[m] := by simp [tB, List.getD_eq_getElem?_getD, List.getElem?_eq_getElem h]
  rw [e, ← List.drop_eq_getElem_cons h, List.take_append_drop]
theorem tC_split {a : List Rc} {m : Nat} (h : m < (tlS a).length) : tlC a = flatB ((tlS a).take m) ++ ((tB a m).rs.map (rnR (tB a m).y (tB a m).h) ++ flatB ((tlS a).drop (m + 1))) := by
  rw [← fB_cons, ← fB_app, ← tS_split h, tlS_flat]
theorem tI_s {a : List Rc} {m : Nat} (h : m < (tlS a).length) : tI a (m + 1) = tI a m + (tB a m).rs.length := by
  rw [tI, take_s zB h, fB_app, List.length_append, tI, fB_cons]
  simp [flatB, tB]
theorem tI_end (a : List Rc) : tI a (tlS a).length = (tlC a).length := by rw [tI, List.take_length, tlS_flat]
theorem tI_le {a : List Rc} {m : Nat} (h : m < (tlS a).length) : tI a m + (tB a m).rs.length ≤ (tlC a).length := by
  rw [tC_split h]; simp only [List.length_append, List.length_map, tI]; omega
theorem tI_m {a : List Rc} {m : Nat} (hm : m ≤ (tlS a).length) (h : (tI a m : Int) < ((tlC a).length : Int)) : m < (tlS a).length := by
  rcases Nat.lt_or_ge m (tlS a).length with h1 | h1
  · exact h1
  · have : m = (tlS a).length := by omega
    rw [this, tI_end] at h; omega
theorem tI_x {a : List Rc} {m : Nat} (hm : m ≤ (tlS a).length) (h : ((tlC a).length : Int) ≤ (tI a m : Int)) : m = (tlS a).length := by
  rcases Nat.lt_or_ge m (tlS a).length with h1 | h1
  · have := tI_le h1; have := tB_ps h1; omega
  · omega
theorem tC_at {a : List Rc} {m j : Nat} (h : m < (tlS a).length) (h1 : tI a m ≤ j) (h2 : j < tI a m + (tB a m).rs.length) : (tlC a).getD j zR = rnR (tB a m).y (tB a m).h ((tB a m).rs.getD (j - tI a m) zN) := by
  have e : ((tB a m).rs.map (rnR (tB a m).y (tB a m).h)).length = (tB a m).rs.length := List.length_map _
  rw [tC_split h, List.getD_eq_getElem?_getD, List.getElem?_append_right h1, List.getElem?_append_left (by rw [e]; simp only [tI] at *; omega)]
  have h3 : j - (flatB ((tlS a).take m)).length < (tB a m).rs.length := by simp only [tI] at *; omega
  rw [List.getElem?_map, List.getElem?_eq_getElem h3, List.getD_eq_getElem?_getD, tI, List.getElem?_eq_getElem h3]
  rfl
theorem tC_y {a : List Rc} {m j : Nat} (h : m < (tlS a).length) (h1 : tI a m ≤ j) (h2 : j < tI a m + (tB a m).rs.length) : ((tlC a).getD j zR).y = (tB a m).y := by rw [tC_at h h1 h2]; rfl
theorem tC_0 {a : List Rc} {m : Nat} (h : m < (tlS a).length) : ((tlC a).getD (tI a m) zR).y = (tB a m).y ∧ ((tlC a).getD (tI a m) zR).h = (tB a m).h := by
  have := tB_ps h
  rw [tC_at h (Nat.le_refl _) (by omega)]; exact ⟨rfl, rfl⟩
theorem tC_nx {a : List Rc} {m : Nat} (h : m < (tlS a).length) (h1 : tI a m + (tB a m).rs.length < (tlC a).length) : (tB a m).y < ((tlC a).getD (tI a m + (tB a m).rs.length) zR).y := by
  rw [← tI_s h] at h1 ⊢
  have h2 := tI_m (a := a) (m := m + 1) (by omega) (by omega)
  rw [(tC_0 h2).1]
  have hp := List.pairwise_iff_getElem.1 (can_pw (tlS_can a)) m (m + 1) h h2 (by omega)
  have e1 : tB a m = (tlS a)[m] := by simp [tB, List.getD_eq_getElem?_getD, List.getElem?_eq_getElem h]
  have e2 : tB a (m + 1) = (tlS a)[m + 1] := by simp [tB, List.getD_eq_getElem?_getD, List.getElem?_eq_getElem h2]
  rw [← e1, ← e2] at hp
  have := (tB_ok h).2.2
  omega
theorem tk_y {a : List Rc} {m k : Nat} (h : m < (tlS a).length) (h2 : k ≤ tI a m + (tB a m).rs.length) (hk : (k : Int) < ((tlC a).length : Int)) (hy : ((tlC a).getD k zR).y = ((tlC a).getD (tI a m) zR).y) : k + 1 ≤ tI a m + (tB a m).rs.length := by
  rcases Nat.lt_or_ge k (tI a m + (tB a m).rs.length) with h3 | h3
  · omega
  · have e : k = tI a m + (tB a m).rs.length := by omega
    subst e
    have := tC_nx h (by omega)
    rw [hy, (tC_0 h).1] at this; omega
theorem tk_n {a : List Rc} {m k : Nat} (h : m < (tlS a).length) (h1 : tI a m ≤ k) (h2 : k ≤ tI a m + (tB a m).rs.length) (hn : ¬ ((k : Int) < ((tlC a).length : Int) ∧ ((tlC a).getD k zR).y = ((tlC a).getD (tI a m) zR).y)) : k = tI a m + (tB a m).rs.length := by
  rcases Nat.lt_or_ge k (tI a m + (tB a m).rs.length) with h3 | h3
  · have := tI_le h
    exact absurd ⟨by omega, by rw [tC_y h h1 h3, (tC_0 h).1]⟩ hn
  · omega
def tP1 (a : List Rc) (m : Nat) : List Pt := lstA ((tlS a).take m)
def tP2 (a : List Rc) (m u : Nat) : List Pt := tP1 a m ++ lstY (tB a m).rs (tB a m).y u
def tP3 (a : List Rc) (m u j : Nat) : List Pt := tP2 a m u ++ lstR ((tB a m).y + u) ((tB a m).rs.take (j - tI a m))
def tP4 (a : List Rc) (m u j s : Nat) : List Pt := tP3 a m u j ++ rowL ((tB a m).y + u) ((tlC a).getD j zR).x s
theorem lstA_app : ∀ (p q : List Bd), lstA (p ++ q) = lstA p ++ lstA q
  | [], _ => rfl
  | b :: p, q => by rw [List.cons_append, lstA, lstA, lstA_app p q, List.append_assoc]
theorem lstR_app (y : Int) : ∀ (p q : List Rw), lstR y (p ++ q) = lstR y p ++ lstR y q
  | [], _ => rfl
  | b :: p, q => by rw [List.cons_append, lstR, lstR, lstR_app y p q, List.append_assoc]
theorem tP2_0 (a : List Rc) (m : Nat) : tP2 a m 0 = tP1 a m := by simp [tP2, lstY]
theorem tP3_0 (a : List Rc) (m u : Nat) : tP3 a m u (tI a m) = tP2 a m u := by simp [tP3, lstR]
theorem tP4_0 (a : List Rc) (m u j : Nat) : tP4 a m u j 0 = tP3 a m u j := by simp [tP4, rowL]
theorem tP4_s (a : List Rc) (m u j s : Nat) : tP4 a m u j (s + 1) = tP4 a m u j s ++ [⟨((tlC a).getD j zR).x + s, (tB a m).y + u⟩] := by
  rw [tP4, rowL_succ, ← List.append_assoc, ← tP4]
theorem tP4_e {a : List Rc} {m u j s : Nat} (h : m < (tlS a).length) (h1 : tI a m ≤ j) (h2 : j < tI a m + (tB a m).rs.length) (hs : (s : Int) = ((tlC a).getD j zR).w) : tP4 a m u j s = tP3 a m u (j + 1) := by
  rw [tP4, tP3, tP3, show j + 1 - tI a m = (j - tI a m) + 1 from by omega, take_s zN (by omega), lstR_app, ← List.append_assoc]
  congr 1
  rw [tC_at h h1 h2] at hs ⊢
  simp only [rnR] at hs ⊢
  simp only [lstR, List.append_nil]
  rw [show s = (((tB a m).rs.getD (j - tI a m) zN).hi - ((tB a m).rs.getD (j - tI a m) zN).lo).toNat from by omega]
theorem tP3_e {a : List Rc} {m u : Nat} : tP3 a m u (tI a m + (tB a m).rs.length) = tP2 a m (u + 1) := by
  rw [tP3, tP2, tP2, show tI a m + (tB a m).rs.length - tI a m = (tB a m).rs.length from by omega, List.take_length, lstY, List.append_assoc]
theorem tP2_e {a : List Rc} {m u : Nat} (h : m < (tlS a).length) (hu : (u : Int) = (tB a m).h) : tP2 a m u = tP1 a (m + 1) := by
  rw [tP1, take_s zB h, lstA_app, tP2, tP1]
  congr 1
  show _ = lstY (tB a m).rs (tB a m).y (tB a m).h.toNat ++ []
  rw [List.append_nil, ← hu]; rfl
theorem tP1_e (a : List Rc) : tP1 a (tlS a).length = lstA (tlS a) := by rw [tP1, List.take_length]
theorem tP1_le {a : List Rc} {m : Nat} (h : m ≤ (tlS a).length) : (tP1 a m).length ≤ (lstA (tlS a)).length := by
  conv => rhs; rw [← List.take_append_drop m (tlS a), lstA_app]
  rw [List.length_append, tP1]; omega
theorem tP2_le {a : List Rc} {m u : Nat} (h : m < (tlS a).length) (hu : (u : Int) ≤ (tB a m).h) : (tP2 a m u).length ≤ (lstA (tlS a)).length := by
  have h1 := tP1_le (a := a) (m := m + 1) (by omega)
  have hh := (tB_ok h).2.2
  rw [← tP2_e h (u := (tB a m).h.toNat) (by omega)] at h1
  rw [tP2, List.length_append, lstY_len (y' := 0)] at h1 ⊢
  have := Nat.mul_le_mul_right (lstR 0 (tB a m).rs).length (show u ≤ (tB a m).h.toNat by omega)
  omega
theorem tP3_le {a : List Rc} {m u j : Nat} (h : m < (tlS a).length) (hu : (u : Int) < (tB a m).h) : (tP3 a m u j).length ≤ (lstA (tlS a)).length := by
  have h1 := tP2_le (u := u + 1) h (by omega)
  rw [← tP3_e, tP3, show tI a m + (tB a m).rs.length - tI a m = (tB a m).rs.length from by omega, List.take_length] at h1
  rw [tP3]
  have e := congrArg List.length (lstR_app ((tB a m).y + u) ((tB a m).rs.take (j - tI a m)) ((tB a m).rs.drop (j - tI a m)))
  rw [List.take_append_drop, List.length_append] at e
  rw [List.length_append] at h1 ⊢
  omega
theorem tP4_le {a : List Rc} {m u j s : Nat} (h : m < (tlS a).length) (hu : (u : Int) < (tB a m).h) (h1 : tI a m ≤ j) (h2 : j < tI a m + (tB a m).rs.length) (hs : (s : Int) ≤ ((tlC a).getD j zR).w) : (tP4 a m u j s).length ≤ (lstA (tlS a)).length := by
  have h3 := tP3_le (j := j + 1) h hu
  rw [← tP4_e (s := (((tlC a).getD j zR).w).toNat) h h1 h2 (by omega)] at h3
  rw [tP4, List.length_append, rowL_len] at h3 ⊢
  omega
theorem tz_no {a : List Rc} (h : 4096 < arK (tlC a) (tlC a).length) : tilesF a = [] := by
  rw [arK_tl] at h
  by_cases hb : (List.range (els a).length).any (badT (els a)) = true
  · rw [tilesF, if_pos hb]
  · have := tf_small (by simpa using hb); omega
theorem tz_yes {a : List Rc} (h : arK (tlC a) (tlC a).length ≤ 4096) : tilesF a = lstA (tlS a) ∧ (lstA (tlS a)).length ≤ 4096 := by
  rw [arK_tl] at h
  refine ⟨tf_list ?_, by omega⟩
  rw [← Bool.not_eq_true]
  intro hb
  have := tf_big hb; omega
theorem fl16t (x : Int) : floorI x 16 = tileI x := by rw [floor_pos (by decide)]; unfold tileI; omega
theorem tile_bt (x : Int) : 16 * tileI x ≤ x ∧ x < 16 * tileI x + 16 := by unfold tileI; omega
theorem trK_t {l : List Rc} {k : Nat} (h : (k : Int) < (l.length : Int)) : ((trK l k).map rcC).set k [.i (tileI (l.getD k zR).x), .i (tileI (l.getD k zR).y), .i (tileI ((l.getD k zR).x + (l.getD k zR).w - 1) + 1 - tileI (l.getD k zR).x), .i (tileI ((l.getD k zR).y + (l.getD k zR).h - 1) + 1 - tileI (l.getD k zR).y)] = (trK l (k + 1)).map rcC := trK_s h
theorem trL_eq (a : List Rc) : (trL a).length = (els a).length := by rw [trL, List.length_map]
theorem trL_ln (a : List Rc) : (trL a).length ≤ 256 := by rw [trL_eq]; exact els_len a
theorem tkT (a : List Rc) : List.take (els a).length (List.map rcC (trL a)) = (trL a).map rcC := List.take_of_length_le (by simp [trL])
theorem cwh_tl (a : List Rc) (k : Nat) : IntKind.i64.wrap (((tlC a).getD k zR).w * ((tlC a).getD k zR).h) = ((tlC a).getD k zR).w * ((tlC a).getD k zR).h := cwh_mul (trL a) k
theorem arK_st {a : List Rc} {k : Nat} (h : (k : Int) < ((tlC a).length : Int)) : IntKind.i64.wrap (arK (tlC a) k + ((tlC a).getD k zR).w * ((tlC a).getD k zR).h) = arK (tlC a) (k + 1) := arK_s (a := trL a) h
theorem ar_ge : ∀ {l : List Rc}, Wd l → (l.length : Int) ≤ arS l
  | [], _ => by simp [arS]
  | r :: l, hw => by
    have h1 := empty_spec.1 (hw r (by simp))
    have h2 := ar_ge (l := l) fun q hq => hw q (by simp [hq])
    have h3 := Int.mul_le_mul (show (1 : Int) ≤ r.w by omega) (show (1 : Int) ≤ r.h by omega) (by omega) (by omega)
    simp only [arS, List.length_cons]; omega
theorem tlC_ln (a : List Rc) : (tlC a).length ≤ 17179869184 := by
  have h1 := ar_ge (tlC_wd a)
  have h2 := tl_len a
  rw [ar_tl] at h1; omega
theorem ty0 {a : List Rc} {m : Nat} (h : m < (tlS a).length) : ((tlC a).getD (tI a m) zR).y = (tB a m).y + ((0 : Nat) : Int) := by rw [(tC_0 h).1]; simp
theorem tB_bd {a : List Rc} {m : Nat} (h : m < (tlS a).length) : -1048576 ≤ (tB a m).y ∧ 0 < (tB a m).h ∧ (tB a m).y + (tB a m).h ≤ 1048576 := by
  have h1 := tI_le h
  have h2 := tB_ps h
  have hq := wd_at (tlC_wd a) (k := tI a m) (by omega)
  rw [(tC_0 h).1, (tC_0 h).2] at hq
  omega
theorem nd_of {A B : Prop} [Decidable A] [Decidable B] (h : (decide A && decide B) = false) : ¬ (A ∧ B) := by simpa using h
theorem tl_fin {a : List Rc} {m : Nat} (hm : m ≤ (tlS a).length) (h : ((tlC a).length : Int) ≤ (tI a m : Int)) (hz : tilesF a = lstA (tlS a) ∧ (lstA (tlS a)).length ≤ 4096) : tP1 a m = tilesF a := by
  rw [tI_x hm h, tP1_e, hz.1]
end Go.Rect

