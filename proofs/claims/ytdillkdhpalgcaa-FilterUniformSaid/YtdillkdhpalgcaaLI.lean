import Derived.Test.YtdillkdhpalgcaaLH
set_option linter.unusedSimpArgs false
set_option linter.unusedVariables false
set_option linter.unusedSimpArgs false
set_option linter.unusedVariables false
namespace Go.Rect
open Go.Eng
/-! ### The law of parts -/
theorem tab_at {w h : Int} (hz : Z0 w h) {F : Int → Int → Px} {x y : Int} (hx : 0 ≤ x ∧ x < w) (hy : 0 ≤ y ∧ y < h) : (tabP (nn w h) (gP w.toNat F)).getD (y * w + x).toNat zP = F x y := by
  have hY : ((y.toNat : Nat) : Int) = y := Int.toNat_of_nonneg hy.1
  have hX : ((x.toNat : Nat) : Int) = x := Int.toNat_of_nonneg hx.1
  have hi := yxI (y := y.toNat) (x := x.toNat) hz (by omega) (by omega)
  rw [hY, hX] at hi
  rw [hi.1, Int.toNat_natCast, tabP_get hi.2.1, gP_at (by omega), hY, hX]
section
variable {i : Im} {k : Int} {ps : List Int} {out : Rc}
/-- What is asked of a part. -/
structure PtH (i : Im) (k : Int) (ps : List Int) (out : Rc) : Prop where
  hi : ichkE i = 0
  hf : fchkE k ps = 0
  hv : validB out = true
  he : emptyB out = false
  hw : withinB out (allR i) = true
theorem ptl_in (h : PtH i k ps out) : (0 ≤ out.x ∧ 0 < out.w ∧ out.x + out.w ≤ i.w) ∧ (0 ≤ out.y ∧ 0 < out.h ∧ out.y + out.h ≤ i.h) := by
  have he := empty_spec.1 h.he
  rcases within_spec.1 h.hw with c | c
  · rw [h.he] at c; cases c
  · have := c.2; simp only [allR] at this; omega
theorem ptl_w (h : PtH i k ps out) : ¬ i.w = 0 := by have := ptl_in h; omega
theorem ptl_vA (h : PtH i k ps out) : validB (allR i) = true := by
  have hz := (ichk0 h.hi).1
  unfold Z0 at hz
  exact valid_spec.2 (by simp only [allR]; omega)
theorem ptl_need (h : PtH i k ps out) : needE k ps out (allR i) = 0 := by
  rw [needE, if_neg (by have := h.hf; omega), badB, h.he, h.hv, h.hw, ptl_vA h]; rfl
theorem ptl_R (h : PtH i k ps out) : 0 ≤ reachI k ps ∧ reachI k ps ≤ 16 := by
  have g := (fk_rg h.hf).1
  by_cases hk : k = 5 ∨ k = 6 ∨ k = 9 ∨ k = 10
  · exact reach_n h.hf hk
  · have := reach_1 h.hf (by omega); omega
/-- The pixels that are needed. -/
theorem ptl_n (h : PtH i k ps out) : emptyB (needR k ps out (allR i)) = false ∧ (0 ≤ (needR k ps out (allR i)).x ∧ (needR k ps out (allR i)).x + (needR k ps out (allR i)).w ≤ i.w) ∧ (0 ≤ (needR k ps out (allR i)).y ∧ (needR k ps out (allR i)).y + (needR k ps out (allR i)).h ≤ i.h) := by
  have hn := ptl_need h
  have hh := nd_in (x := out.x) (y := out.y) hn rfl (ptl_R h) (by have := ptl_in h; have := ptl_R h; omega) (by have := ptl_in h; have := ptl_R h; omega)
  have he := (has_spec.1 hh).1
  refine ⟨he, ?_⟩
  have hR := nd_R hn
  rw [hR] at he ⊢
  rcases meet_cases (growR out (reachI k ps)) (allR i) with ⟨e, _⟩ | ⟨h1, h2, h3, h4, h5, h6, h7⟩
  · rw [e] at he; exact absurd he (by decide)
  · have a := empty_spec.1 he
    simp only [allR] at *
    omega
theorem ptl_sz (h : PtH i k ps out) : (needR k ps out (allR i)).w ≤ 256 ∧ (needR k ps out (allR i)).h ≤ 256 := by
  have hz := (ichk0 h.hi).1
  unfold Z0 at hz
  have := ptl_n h; omega
theorem ptl_vn (h : PtH i k ps out) : validB (needR k ps out (allR i)) = true := by
  have := empty_spec.1 (ptl_n h).1
  exact valid_spec.2 (by omega)
theorem ptl_c (h : PtH i k ps out) : crpE i (needR k ps out (allR i)) = 0 := crE h.hi (ptl_vn h) (ptl_sz h)
theorem ptl_cR (h : PtH i k ps out) : crpR i (needR k ps out (allR i)) = ⟨(needR k ps out (allR i)).w, (needR k ps out (allR i)).h, tabP (nn (needR k ps out (allR i)).w (needR k ps out (allR i)).h) (gP (needR k ps out (allR i)).w.toNat (crpF i (needR k ps out (allR i))))⟩ :=
  (crq5 h.hi (ptl_vn h) (ptl_sz h) (ptl_n h).1).1
theorem ptl_ci (h : PtH i k ps out) : ichkE (crpR i (needR k ps out (allR i))) = 0 := by
  rw [ptl_cR h]
  have he := empty_spec.1 (ptl_n h).1
  have hs := ptl_sz h
  refine ich_of ?_ fun j hj => pkp_ok h.hi
  exact isz_T ⟨by omega, by rw [Bool.eq_iff_iff]; simp only [beq_iff_eq]; omega⟩
theorem ptl_sh (h : PtH i k ps out) : showB (crpR i (needR k ps out (allR i))) ⟨(needR k ps out (allR i)).x, (needR k ps out (allR i)).y⟩ (needR k ps out (allR i)) = true := by
  rw [ptl_cR h]
  simp only [showB, Bool.and_eq_true, decide_eq_true_eq]; omega
theorem ptl_lik (h : PtH i k ps out) {x y : Nat} (hx : (x : Int) < out.w) (hy : (y : Int) < out.h) :
    Lik (vwOf i ⟨0, 0⟩ (allR i) k ps) (vwOf (crpR i (needR k ps out (allR i))) ⟨(needR k ps out (allR i)).x, (needR k ps out (allR i)).y⟩ (allR i) k ps) (out.x + x) (out.y + y) (reachI k ps) := by
  refine ⟨rfl, rfl, rfl, rfl, fun a b a1 a2 b1 b2 => ?_⟩
  have hn := ptl_need h
  have hR := ptl_R h
  have hh := has_spec.1 (nd_in (x := out.x + x + a) (y := out.y + y + b) hn rfl hR (by omega) (by omega))
  have hin := ptl_n h
  have hz := cr_z hin.1 (ptl_sz h)
  have hzi := (ichk0 h.hi).1
  simp only at hh
  rw [pixF, pixF]
  simp only [cxI, cyI, vwOf]
  generalize min (max (out.x + x + a) (allR i).x) ((allR i).x + (allR i).w - 1) = cx at *
  generalize min (max (out.y + y + b) (allR i).y) ((allR i).y + (allR i).h - 1) = cy at *
  rw [ptl_cR h]
  simp only
  rw [tab_at hz (by omega) (by omega), crpF, pickP, if_pos (by omega)]
  congr 2
  have e1 : (needR k ps out (allR i)).x + (cx - (needR k ps out (allR i)).x) = cx := by omega
  have e2 : (needR k ps out (allR i)).y + (cy - (needR k ps out (allR i)).y) = cy := by omega
  rw [e1, e2, Int.sub_zero, Int.sub_zero]
theorem ptl_aE (h : PtH i k ps out) : appE (crpR i (needR k ps out (allR i))) ⟨(needR k ps out (allR i)).x, (needR k ps out (allR i)).y⟩ (allR i) k ps out = 0 := (ap4 (ptl_ci h) (ptl_need h) (ptl_sh h)).2
theorem ptl_oz (h : PtH i k ps out) : out.w ≤ 256 ∧ out.h ≤ 256 := by
  have hz := (ichk0 h.hi).1
  unfold Z0 at hz
  have := ptl_in h; omega
theorem ptl_eq (h : PtH i k ps out) : appR (crpR i (needR k ps out (allR i))) ⟨(needR k ps out (allR i)).x, (needR k ps out (allR i)).y⟩ (allR i) k ps out = crpR (whlR i k ps) out := by
  rw [(ap4 (ptl_ci h) (ptl_need h) (ptl_sh h)).1, (crq5 (gw_chk h.hi (ptl_w h) h.hf) h.hv (ptl_oz h) h.he).1]
  refine congrArg (fun p => (⟨out.w, out.h, p⟩ : Im)) (tabP_ext fun j hj => ?_)
  have hz := cr_z h.he (ptl_oz h)
  have hzi := (ichk0 h.hi).1
  have hin := ptl_in h
  have hw' : 0 < out.w.toNat := by omega
  have hx := Nat.mod_lt j hw'
  have hy : j / out.w.toNat < out.h.toNat := Nat.div_lt_of_lt_mul hj
  rw [gP, gP, appF, crpF, pickP]
  generalize j % out.w.toNat = x at *
  generalize j / out.w.toNat = y at *
  rw [(gw_R h.hi (ptl_w h) h.hf).2]
  simp only
  rw [if_pos (by omega), tab_at hzi (by omega) (by omega), appF]
  simp only [allR, Int.zero_add]
  refine congrArg clrP ?_
  exact lk_fil (v := vwOf i ⟨0, 0⟩ (allR i) k ps) h.hf rfl (ptl_lik h (by omega) (by omega)) (by simp only [vwOf, allR]; omega) (by simp only [vwOf, allR]; omega)
theorem ptl_wh (h : PtH i k ps out) : whlE i k ps = 0 ∧ ichkE (whlR i k ps) = 0 ∧ (whlR i k ps).w = i.w ∧ (whlR i k ps).h = i.h := by
  have := gw_R h.hi (ptl_w h) h.hf
  exact ⟨this.1, gw_chk h.hi (ptl_w h) h.hf, by rw [this.2], by rw [this.2]⟩
end
end Go.Rect

set_option linter.unusedSimpArgs false
set_option linter.unusedVariables false
namespace Go.Rect
open Go.Eng
/-! ### The law of images with equal pixels -/
def plP (k : Int) (p : Px) : Px := if k = 5 then ⟨0, 0, 0, p.a⟩ else if k = 6 then ⟨32768, 32768, 32768, p.a⟩ else p
structure UnS (s : Sm) (p : Px) : Prop where
  a : s.a = s.w * p.a
  r : s.r = s.a * p.r
  g : s.g = s.a * p.g
  b : s.b = s.a * p.b
theorem un_z (p : Px) : UnS zS p := ⟨by simp [zS], by simp [zS], by simp [zS], by simp [zS]⟩
theorem un_add {s : Sm} {p : Px} (h : UnS s p) (w : Int) : UnS (addS s p w) p := by
  refine ⟨?_, ?_, ?_, ?_⟩ <;> simp only [addS]
  · rw [h.a, Int.add_mul]
  · rw [h.r, Int.add_mul]
  · rw [h.g, Int.add_mul]
  · rw [h.b, Int.add_mul]
theorem un_mean {s : Sm} {p : Px} (h : UnS s p) (hw : 0 < s.w) (ha : 0 < p.a) : meanS s = p := by
  have hA : 0 < s.a := by rw [h.a]; exact Int.mul_pos hw ha
  have e : divI s.a s.w = p.a := by rw [h.a]; exact dv_1 hw
  rw [meanS, if_neg (by omega), e, if_neg (by omega), h.r, h.g, h.b, dv_1 hA, dv_1 hA, dv_1 hA]
theorem foldl_inv {α β : Type} {f : β → α → β} {I : β → Prop} : ∀ (l : List α) (b : β), I b → (∀ a ∈ l, ∀ b, I b → I (f b a)) → I (l.foldl f b)
  | [], b, h, _ => h
  | a :: l, b, h, hs => by
    simp only [List.foldl_cons]
    exact foldl_inv l _ (hs a (by simp) b h) fun a' ha => hs a' (by simp [ha])
theorem wt_posS {k : Int} {ps : List Int} (h : fchkE k ps = 0) (hk : k = 1 ∨ k = 2 ∨ k = 3) : 0 < wtS (wtL k (ps.getD 0 0)) (2 * ps.getD 0 0 + 1).toNat := by
  have g := (fk_rg h).2.2.2.1 (by omega) (by omega)
  have g0 := g.2.2.2.1 (by omega)
  have g2 := g.2.2.2.2.1
  have g3 := g.2.2.1
  generalize ps.getD 0 0 = r at *
  unfold wtL
  split
  · next h2 =>
    have := g2 h2
    have : r = 0 ∨ r = 1 ∨ r = 2 ∨ r = 3 ∨ r = 4 ∨ r = 5 ∨ r = 6 ∨ r = 7 := by omega
    rcases this with rfl | rfl | rfl | rfl | rfl | rfl | rfl | rfl <;> decide +kernel
  · have : r = 0 ∨ r = 1 ∨ r = 2 ∨ r = 3 ∨ r = 4 ∨ r = 5 ∨ r = 6 ∨ r = 7 ∨ r = 8 ∨ r = 9 ∨ r = 10 ∨ r = 11 ∨ r = 12 ∨ r = 13 ∨ r = 14 ∨ r = 15 ∨ r = 16 := by omega
    rcases this with rfl | rfl | rfl | rfl | rfl | rfl | rfl | rfl | rfl | rfl | rfl | rfl | rfl | rfl | rfl | rfl | rfl <;> decide +kernel
section
variable {v : Vw} {wt : List Int} {x y : Int} {p : Px}
def UniV (v : Vw) (p : Px) : Prop := ∀ x y, VIn v x y → pixF v x y = p
theorem un_sq (hu : UniV v p) (h : SqH v wt x y) : UnS (sqS v wt x y) p := by
  unfold sqS sqK
  have e : ∀ s, sqRow v wt x y s (2 * v.rad + 1).toNat 0 = s := fun s => rfl
  rw [e]
  refine foldl_inv (I := fun s => UnS s p) _ _ (un_z p) fun j hj b hb => ?_
  simp only [List.mem_range] at hj
  unfold sqRow
  refine foldl_inv (I := fun s => UnS s p) _ _ hb fun i hi c hc => ?_
  simp only [List.mem_range] at hi
  rw [hu _ _ (sq_vin h hj hi)]
  exact un_add hc _
theorem un_mot (hu : UniV v p) (h : MtH v x y) : UnS (motK v x y ((motN v).toNat + 1)) p := by
  unfold motK
  refine foldl_inv (I := fun s => UnS s p) _ _ (un_z p) fun j hj b hb => ?_
  simp only [List.mem_range] at hj
  have n0 := motN_0 v
  rw [motP, hu _ _ (mt_in h (by omega))]
  exact un_add hb _
theorem un_pg (hu : UniV v p) (h : PgH v x y) : UnS (pgK v (pgX v x) (pgY v y) (pgW v x) (pgH v y) 0) p := by
  unfold pgK
  have e : ∀ s, pgRow v (pgX v x) (pgY v y + ((pgH v y : Nat) : Int)) s 0 = s := fun s => rfl
  rw [e]
  refine foldl_inv (I := fun s => UnS s p) _ _ (un_z p) fun j hj b hb => ?_
  simp only [List.mem_range] at hj
  unfold pgRow
  refine foldl_inv (I := fun s => UnS s p) _ _ hb fun i hi c hc => ?_
  simp only [List.mem_range] at hi
  rw [hu _ _ (pg_in h hj hi)]
  exact un_add hc _
theorem un_win (hu : UniV v p) (h : RkH v x y) (k : Int) (c : Nat) : selI k (winS v x y c) = chn c p := by
  obtain ⟨i, j, hi, hj, e⟩ := win_mem (sel_mem k (ws_bd h c).1)
  rw [e, hu _ _ (h.2.2.2 i j hi.1 hi.2 hj.1 hj.2)]
theorem un_fil (hu : UniV v p) (h : FlH v wt x y) (hp : validP p = true) (ha : 0 < p.a) (hw : v.kind = 1 ∨ v.kind = 2 ∨ v.kind = 3 → 0 < wtS wt (2 * v.rad + 1).toNat) : filF v wt x y = plP v.kind p := by
  have hb := vP_bd hp
  obtain ⟨h1, h2, h3, h4, h5, h6⟩ := h
  have sqw : v.kind = 1 ∨ v.kind = 2 ∨ v.kind = 3 → 0 < (sqS v wt x y).w := fun hk => by
    rw [sqS, sqK_w]
    have := Int.mul_pos (hw hk) (hw hk)
    have e : wtS wt 0 = 0 := rfl
    rw [e, Int.zero_mul]; omega
  have un : ∀ c : Int, 0 ≤ c ∧ c ≤ 65535 → unitI c = c := fun c hc => by unfold unitI; omega
  unfold filF plP
  split
  · rw [if_neg (by omega), if_neg (by omega)]
    exact un_mean (un_sq hu (h1 (by omega))) (sqw (by omega)) ha
  · split
    · rw [if_neg (by omega), if_neg (by omega)]
      have hr := h2 (by omega)
      unfold rankF
      rw [un_win hu hr, un_win hu hr, un_win hu hr, un_win hu hr]
      exact ch4 p
    · split
      · rw [if_neg (by omega), if_neg (by omega)]
        have hs := h1 (by omega)
        have U := un_sq hu hs
        have hA : 0 < (sqS v wt x y).a := by rw [U.a]; exact Int.mul_pos (sqw (by omega)) ha
        have e : ∀ am c : Int, 0 ≤ c ∧ c ≤ 65535 → awayI am c ((sqS v wt x y).a * c) (sqS v wt x y).a = c := fun am c hc => by
          unfold awayI
          rw [dv_1 hA, Int.sub_self, Int.mul_zero, divI_0 (by omega), Int.add_zero, un c hc]
        unfold sharpF sharpP
        rw [hu _ _ (sq_ctr hs), if_neg (by omega), U.r, U.g, U.b, e _ _ hb.1, e _ _ hb.2.1, e _ _ hb.2.2.1]
      · split
        · have he := ed_in (h3 (by omega))
          have l1 := hu _ _ he.1; have l2 := hu _ _ he.2.1; have l3 := hu _ _ he.2.2.1; have l4 := hu _ _ he.2.2.2.1
          have l5 := hu _ _ he.2.2.2.2.1; have l6 := hu _ _ he.2.2.2.2.2.1; have l7 := hu _ _ he.2.2.2.2.2.2.1; have l8 := hu _ _ he.2.2.2.2.2.2.2.1; have l9 := hu _ _ he.2.2.2.2.2.2.2.2
          unfold edgeF edgX edgY lumF
          rw [l1, l2, l3, l4, l5, l6, l7, l8, l9, Int.sub_self, show hypI 0 0 = 0 by decide +kernel]
          rfl
        · split
          · have he := ed_in (h3 (by omega))
            have l3 := hu _ _ he.2.2.1; have l4 := hu _ _ he.2.2.2.1; have l9 := hu _ _ he.2.2.2.2.2.2.2.2
            unfold embF lumF
            rw [l3, l4, l9, show 32768 + lumI p - lumI p = 32768 by omega]
            rfl
          · split
            · next h9 =>
              have hm := h4 h9
              refine un_mean (un_mot hu hm) ?_ ha
              rw [motK_w]; omega
            · have hg := h5 (by omega)
              refine un_mean (un_pg hu hg) ?_ ha
              rw [pg_w]
              have hW := pg_W hg; have hH := pg_H hg
              have : 0 < pgH v y * pgW v x := Nat.mul_pos (by omega) (by omega)
              omega
end
section
variable {w h k : Int} {p : Px} {ps : List Int}
structure UnH (w h : Int) (p : Px) (k : Int) (ps : List Int) : Prop where
  sz : isz w h = true
  vp : validP p = true
  pa : ¬ p.a = 0
  hf : fchkE k ps = 0
theorem um_i (H : UnH w h p k ps) : nwpR w h p = ⟨w, h, tabP (nn w h) fun _ => p⟩ := (np3 H.sz H.vp).1
theorem um_chk (H : UnH w h p k ps) : ichkE (nwpR w h p) = 0 := by
  rw [um_i H]; exact ich_of H.sz fun _ _ => H.vp
theorem um_uni (H : UnH w h p k ps) (o : Pt) (bd : Rc) (r : Int) : UniV ⟨nwpR w h p, o, bd, k, ps, r⟩ p := fun x y hv => by
  have hix := (vin_ix hv).2.2.1
  unfold pixF
  simp only at hix ⊢
  generalize ((cyI (⟨nwpR w h p, o, bd, k, ps, r⟩ : Vw) y - o.y) * (nwpR w h p).w + (cxI (⟨nwpR w h p, o, bd, k, ps, r⟩ : Vw) x - o.x)).toNat = j at hix ⊢
  rw [um_i H] at hix ⊢
  simp only [tabP_len] at hix ⊢
  exact tabP_get hix
theorem um_0 (H : UnH w h p k ps) : whlE (nwpR w h p) k ps = 0 ∧ (whlR (nwpR w h p) k ps).p.length = (nwpR w h p).p.length := by
  have hi := um_chk H
  by_cases hw : (nwpR w h p).w = 0
  · have h3 := wh3 hi H.hf hw
    rw [h3.1, h3.2, mt_i hi hw]
    exact ⟨rfl, rfl⟩
  · have hR := gw_R hi hw H.hf
    refine ⟨hR.1, ?_⟩
    rw [hR.2]; simp only [tabP_len]; exact (ichk0 hi).2.2.1.symm
theorem um_px (H : UnH w h p k ps) {j : Nat} (hj : j < (whlR (nwpR w h p) k ps).p.length) : (whlR (nwpR w h p) k ps).p.getD j zP = plP k p := by
  have hi := um_chk H
  have hl := um_0 H
  rw [hl.2, (ichk0 hi).2.2.1] at hj
  have hw : ¬ (nwpR w h p).w = 0 := fun e => by rw [nn, e] at hj; simp at hj
  have hR := gw_R hi hw H.hf
  have hxy := gw_xy hi hw hj
  have F := gw_fl (k := k) (ps := ps) hi hw H.hf hxy.1 hxy.2
  have hb := vP_bd H.vp
  have hpa := H.pa
  have hk := (fk_rg H.hf).1
  rw [hR.2]
  simp only
  rw [tabP_get hj, gP, appF]
  simp only [allR, Int.zero_add]
  have e := un_fil (v := vwOf (nwpR w h p) ⟨0, 0⟩ (allR (nwpR w h p)) k ps) (um_uni H ⟨0, 0⟩ (allR (nwpR w h p)) (ps.getD 0 0)) F H.vp (by omega) (fun hk => wt_posS H.hf hk)
  simp only [allR] at e
  rw [e, clrP, if_neg]
  · rfl
  · have : (plP k p).a = p.a := by
      unfold plP
      split
      · rfl
      · split <;> rfl
    simp only [vwOf]
    rw [this]; exact hpa
end
def p5 (k : Int) (p : Px) : Px := if k = 5 then ⟨0, 0, 0, p.a⟩ else p
theorem pl6 {k : Int} {p : Px} (hc : k = 6) : plP k p = ⟨32768, 32768, 32768, (p5 k p).a⟩ := by
  subst hc; rfl
theorem pl5 {k : Int} {p : Px} (hc : ¬ k = 6) : plP k p = p5 k p := by
  unfold plP p5
  split
  · rfl
  · first | rfl | rw [if_neg hc]
end Go.Rect

set_option linter.unusedSimpArgs false
set_option linter.unusedVariables false
namespace Go.Rect
open Go.Eng
theorem pt_mk {i : Im} {k : Int} {ps : List Int} {out : Rc} (hc : (((((i.p.length : Int) ≤ 1024 ∧ ichkE i = 0) ∧ fchkE k ps = 0) ∧ validB out = true) ∧ emptyB out = false) ∧ withinB out ⟨0, 0, i.w, i.h⟩ = true) : PtH i k ps out :=
  ⟨hc.1.1.1.1.2, hc.1.1.1.2, hc.1.1.2, hc.1.2, hc.2⟩
theorem un_mk {w h k : Int} {p : Px} {ps : List Int} (hc : ((nwpE w h p = 0 ∧ ¬ p.a = 0) ∧ IntKind.i64.wrap (w * h) ≤ 1024) ∧ fchkE k ps = 0) : UnH w h p k ps := by
  have h0 := hc.1.1.1
  unfold nwpE at h0
  split at h0
  · omega
  · next h1 =>
    split at h0
    · omega
    · next h2 => exact ⟨by simpa using h1, by simpa using h2, hc.1.1.2, hc.2⟩
def plQ (k : Int) (p : Px) : Px := if k = 5 then ⟨0, 0, 0, p.a⟩ else p
theorem plQ6 {k : Int} {p : Px} (hc : k = 6) : plP k p = ⟨32768, 32768, 32768, (plQ k p).a⟩ := pl6 hc
theorem plQ5 {k : Int} {p : Px} (hc : ¬ k = 6) : plP k p = plQ k p := pl5 hc
end Go.Rect

