import Derived.Test.YtnbeigcjhpldmaaGreatB1
import Derived.Test.YtnbeigcjhpldmaaGreatB2
import Derived.Test.YtnbeigcjhpldmaaGreatB3
import Derived.Test.YtnbeigcjhpldmaaGreatB4
import Derived.Test.YtnbeigcjhpldmaaGreatB7
set_option linter.unusedSimpArgs false
set_option linter.unusedVariables false
set_option linter.unusedSimpArgs false
set_option linter.unusedVariables false
namespace Go.S03
open Go.RowKit Go.Proofs Go.Eng Go.Rect
set_option maxHeartbeats 8000000 in
set_option maxRecDepth 100000 in
theorem canoCommon_fn (a b : List Rc) : Eng.Fn Tryz.prog 46 [.sl 4 (a.map rcC), .sl 4 (b.map rcC), .v (.func (.func 49) #[] #[])] (.own 34 4 ((canoF (fun x y => (x && y)) a b).map rcC)) := by
  refine Eng.Fn.by (fn := Tryz.f46) 101 [.tmp 6] Tryz.func46 rfl Tryz.ntmps46 rfl (by simp) fun w0 G0 => ?_
  refine WA_seq (x := (fcd Tryz.f46 [0])) (y := (fcd Tryz.f46 [1])) ?_
  refine V_regionX Γ Δ [] [0, 1, 2, 6, 7, 8, 9, 10, 11, 12, 13, 14, 16, 28, 55, 61, 66, 80, 81, 82, 83] (evs ?_)
  all_goals (try with_reducible (repeat' (first | apply And.intro | intro _)))
  all_goals (try (first | with_reducible refine wa_id ?_ | exact True.intro | omega | exact els_fn _ | exact heights_fn _ _ (els_wd a) (els_wd b) (els_len a) (els_len b) | exact row_fn _ _ (els_wd a) (els_len a) | exact row_fn _ _ (els_wd b) (els_len b) | exact combCommon_fn _ _ (Nat.le_trans (rowF_len _ _) (els_len a)) (Nat.le_trans (rowF_len _ _) (els_len b)) | exact goes_fn _ _ _ (lastB_wd hok.wd)))
  refine WA_seq (x := (fcd Tryz.f46 [1, 0])) (y := (fcd Tryz.f46 [1, 1])) ?_
  refine V_regionX Γ Δ [] [0, 1, 2, 6, 7, 8, 9, 10, 11, 12, 13, 14, 16, 28, 55, 61, 66, 80, 81, 82, 83] (evs ?_)
  all_goals (try with_reducible (repeat' (first | apply And.intro | intro _)))
  all_goals (try (first | with_reducible refine wa_id ?_ | exact True.intro | exact els_fn _ | omega | exact els_fn _ | exact heights_fn _ _ (els_wd a) (els_wd b) (els_len a) (els_len b) | exact row_fn _ _ (els_wd a) (els_len a) | exact row_fn _ _ (els_wd b) (els_len b) | exact combCommon_fn _ _ (Nat.le_trans (rowF_len _ _) (els_len a)) (Nat.le_trans (rowF_len _ _) (els_len b)) | exact goes_fn _ _ _ (lastB_wd hok.wd)))
  refine WA_seq (x := (fcd Tryz.f46 [1, 1, 0])) (y := (fcd Tryz.f46 [1, 1, 1])) ?_
  refine V_regionX Γ Δ [] [0, 1, 2, 6, 7, 8, 9, 10, 11, 12, 13, 14, 16, 28, 55, 61, 66, 80, 81, 82, 83] (evs ?_)
  all_goals (try with_reducible (repeat' (first | apply And.intro | intro _)))
  all_goals (try (first | with_reducible refine wa_id ?_ | exact True.intro | exact heights_fn _ _ (by assumption) (by assumption) (by assumption) (by assumption) | omega | exact els_fn _ | exact heights_fn _ _ (els_wd a) (els_wd b) (els_len a) (els_len b) | exact row_fn _ _ (els_wd a) (els_len a) | exact row_fn _ _ (els_wd b) (els_len b) | exact combCommon_fn _ _ (Nat.le_trans (rowF_len _ _) (els_len a)) (Nat.le_trans (rowF_len _ _) (els_len b)) | exact goes_fn _ _ _ (lastB_wd hok.wd)))
  refine WA_seq (x := (fcd Tryz.f46 [1, 1, 1, 0])) (y := (fcd Tryz.f46 [1, 1, 1, 1])) ?_
  refine V_regionX Γ Δ [] [0, 1, 2, 6, 7, 8, 9, 10, 11, 12, 13, 14, 16, 28, 55, 61, 66, 80, 81, 82, 83] (evs ?_)
  all_goals (try with_reducible (repeat' (first | apply And.intro | intro _)))
  all_goals (try (first | with_reducible refine wa_id ?_ | exact True.intro | omega | exact els_fn _ | exact heights_fn _ _ (els_wd a) (els_wd b) (els_len a) (els_len b) | exact row_fn _ _ (els_wd a) (els_len a) | exact row_fn _ _ (els_wd b) (els_len b) | exact combCommon_fn _ _ (Nat.le_trans (rowF_len _ _) (els_len a)) (Nat.le_trans (rowF_len _ _) (els_len b)) | exact goes_fn _ _ _ (lastB_wd hok.wd)))
  refine WA_seq (x := (fcd Tryz.f46 [1, 1, 1, 1, 0])) (y := (fcd Tryz.f46 [1, 1, 1, 1, 1])) ?_
  refine V_regionX Γ Δ [] [0, 1, 2, 6, 7, 8, 9, 10, 11, 12, 13, 14, 16, 28, 55, 61, 66, 80, 81, 82, 83] (evs ?_)
  all_goals (try with_reducible (repeat' (first | apply And.intro | intro _)))
  all_goals (try (first | with_reducible refine wa_id ?_ | exact True.intro | omega | exact els_fn _ | exact heights_fn _ _ (els_wd a) (els_wd b) (els_len a) (els_len b) | exact row_fn _ _ (els_wd a) (els_len a) | exact row_fn _ _ (els_wd b) (els_len b) | exact combCommon_fn _ _ (Nat.le_trans (rowF_len _ _) (els_len a)) (Nat.le_trans (rowF_len _ _) (els_len b)) | exact goes_fn _ _ _ (lastB_wd hok.wd)))
  refine WA_seq (x := (fcd Tryz.f46 [1, 1, 1, 1, 1, 0])) (y := (fcd Tryz.f46 [1, 1, 1, 1, 1, 1])) ?_
  refine WA_seq (x := (fcd Tryz.f46 [1, 1, 1, 1, 1, 0, 0])) (y := (fcd Tryz.f46 [1, 1, 1, 1, 1, 0, 1])) ?_
  refine V_regionX Γ Δ [] [0, 1, 2, 6, 7, 8, 9, 10, 11, 12, 13, 14, 16, 28, 55, 61, 66, 80, 81, 82, 83] (evs ?_)
  all_goals (try with_reducible (repeat' (first | apply And.intro | intro _)))
  all_goals (try (first | with_reducible refine wa_id ?_ | exact True.intro | omega | exact els_fn _ | exact heights_fn _ _ (els_wd a) (els_wd b) (els_len a) (els_len b) | exact row_fn _ _ (els_wd a) (els_len a) | exact row_fn _ _ (els_wd b) (els_len b) | exact combCommon_fn _ _ (Nat.le_trans (rowF_len _ _) (els_len a)) (Nat.le_trans (rowF_len _ _) (els_len b)) | exact goes_fn _ _ _ (lastB_wd hok.wd)))
  refine WA_block (c := (fcd Tryz.f46 [1, 1, 1, 1, 1, 0, 1, 0])) ?_
  refine V_loop (c := (fcd Tryz.f46 [1, 1, 1, 1, 1, 0, 1, 0, 0])) (α := Nat) [8, 9, 10, 11, 12, 13, 14, 16, 28, 55, 61, 66, 80, 81, 82, 83] [16, 97, 98, 14700, 14701, 14702, 14703, 15000, 15001, 15002, 15003, 15200, 15201, 15202, 15203, 16100, 16101, 16102, 16103] (fun k => [(10, .dat (.i (k : Int))), (9, .dat (.i (begB (canK (rowKp (fun x y => (x && y)) (els a) (els b)) (hgtF (els a) (els b)) k) : Int))), (8, .vw 20000 0 (flatB (canK (rowKp (fun x y => (x && y)) (els a) (els b)) (hgtF (els a) (els b)) k)).length 4)]) (fun k => [(20000, some (true, .arr 34 4 ((flatB (canK (rowKp (fun x y => (x && y)) (els a) (els b)) (hgtF (els a) (els b)) k)).map rcC)))]) (fun k => k ≤ (hgtF (els a) (els b)).length - 1) (fun k => (hgtF (els a) (els b)).length - 1 - k) 0 [(20000, none)] ?_ (evs ?_) ?_
  · exact Nat.zero_le _
  · (try with_reducible (repeat' (first | apply And.intro | intro _)))
    all_goals (first | exact True.intro | omega | (first | rfl))
  · intro k hI
    refine WA_seq (x := (fcd Tryz.f46 [1, 1, 1, 1, 1, 0, 1, 0, 0, 0])) (y := (fcd Tryz.f46 [1, 1, 1, 1, 1, 0, 1, 0, 0, 1])) ?_
    refine WA_seq (x := (fcd Tryz.f46 [1, 1, 1, 1, 1, 0, 1, 0, 0, 0, 0])) (y := (fcd Tryz.f46 [1, 1, 1, 1, 1, 0, 1, 0, 0, 0, 1])) ?_
    refine V_regionX Γ Δ [] [0, 1, 2, 6, 7, 8, 9, 10, 11, 12, 13, 14, 16, 28, 55, 61, 66, 80, 81, 82, 83] (evs ?_)
    have hyl := hgt_len (els_len a) (els_len b)
    (try simp (maxSteps := 10000000) (disch := omega) only [w64])
    all_goals (try with_reducible (repeat' (first | apply And.intro | intro _)))
    all_goals (try (first | with_reducible refine wa_id ?_ | exact True.intro | omega | exact els_fn _ | exact heights_fn _ _ (els_wd a) (els_wd b) (els_len a) (els_len b) | exact row_fn _ _ (els_wd a) (els_len a) | exact row_fn _ _ (els_wd b) (els_len b) | exact combCommon_fn _ _ (Nat.le_trans (rowF_len _ _) (els_len a)) (Nat.le_trans (rowF_len _ _) (els_len b)) | exact goes_fn _ _ _ (lastB_wd hok.wd)))
    refine V_cond (evs ?_)
    refine ⟨fun hc => ?_, fun hc => ?_⟩
    · refine WA_skip ?_
      refine WA_seq (x := (fcd Tryz.f46 [1, 1, 1, 1, 1, 0, 1, 0, 0, 1, 0])) (y := (fcd Tryz.f46 [1, 1, 1, 1, 1, 0, 1, 0, 0, 1, 1])) ?_
      refine WA_block (c := (fcd Tryz.f46 [1, 1, 1, 1, 1, 0, 1, 0, 0, 1, 0, 0])) ?_
      refine WA_seq (x := (fcd Tryz.f46 [1, 1, 1, 1, 1, 0, 1, 0, 0, 1, 0, 0, 0])) (y := (fcd Tryz.f46 [1, 1, 1, 1, 1, 0, 1, 0, 0, 1, 0, 0, 1])) ?_
      refine V_draw Γ [] [0, 1, 2, 6, 7, 8, 9, 10, 11, 12, 13, 14, 16, 28, 55, 61, 66, 80, 81, 82, 83] mixed (by kernel_rfl) (evs ?_)
      have hys := hgt_ys (els_wd a) (els_wd b)
      have hok := canK_ok (f := (rowKp (fun x y => (x && y)) (els a) (els b))) (fun y => rowKp_ok rfl (els_wd a) (els_wd b) (els_len a) (els_len b) y) hys k (by omega)
      have hyk := hys.at (k := k) (by omega)
      have hyk1 := hys.at (k := k + 1) (by omega)
      have hya := asc_at hys.asc (k := k) (by omega)
      have hrk := rowKp_ok (keep := (fun x y => (x && y))) rfl (els_wd a) (els_wd b) (els_len a) (els_len b) ((hgtF (els a) (els b)).getD k 0)
      have hyl := hgt_len (els_len a) (els_len b)
      (try simp (maxSteps := 10000000) (disch := omega) only [w64])
      all_goals (try with_reducible (repeat' (first | apply And.intro | intro _)))
      all_goals (try (first | with_reducible refine wa_id ?_ | exact True.intro | omega | exact els_fn _ | exact heights_fn _ _ (els_wd a) (els_wd b) (els_len a) (els_len b) | exact row_fn _ _ (els_wd a) (els_len a) | exact row_fn _ _ (els_wd b) (els_len b) | exact combCommon_fn _ _ (Nat.le_trans (rowF_len _ _) (els_len a)) (Nat.le_trans (rowF_len _ _) (els_len b)) | exact goes_fn _ _ _ (lastB_wd hok.wd)))
      refine WA_seq (x := (fcd Tryz.f46 [1, 1, 1, 1, 1, 0, 1, 0, 0, 1, 0, 0, 1, 0])) (y := (fcd Tryz.f46 [1, 1, 1, 1, 1, 0, 1, 0, 0, 1, 0, 0, 1, 1])) ?_
      refine V_regionX Γ Δ [] [0, 1, 2, 6, 7, 8, 9, 10, 11, 12, 13, 14, 16, 28, 55, 61, 66, 80, 81, 82, 83] (evs ?_)
      all_goals (try with_reducible (repeat' (first | apply And.intro | intro _)))
      all_goals (try (first | with_reducible refine wa_id ?_ | exact True.intro | exact row_fn _ _ (by assumption) (by assumption) | omega | exact els_fn _ | exact heights_fn _ _ (els_wd a) (els_wd b) (els_len a) (els_len b) | exact row_fn _ _ (els_wd a) (els_len a) | exact row_fn _ _ (els_wd b) (els_len b) | exact combCommon_fn _ _ (Nat.le_trans (rowF_len _ _) (els_len a)) (Nat.le_trans (rowF_len _ _) (els_len b)) | exact goes_fn _ _ _ (lastB_wd hok.wd)))
      simp only [rowKp_eq]
      refine WA_seq (x := (fcd Tryz.f46 [1, 1, 1, 1, 1, 0, 1, 0, 0, 1, 0, 0, 1, 1, 0])) (y := (fcd Tryz.f46 [1, 1, 1, 1, 1, 0, 1, 0, 0, 1, 0, 0, 1, 1, 1])) ?_
      refine WA_seq (x := (fcd Tryz.f46 [1, 1, 1, 1, 1, 0, 1, 0, 0, 1, 0, 0, 1, 1, 0, 0])) (y := (fcd Tryz.f46 [1, 1, 1, 1, 1, 0, 1, 0, 0, 1, 0, 0, 1, 1, 0, 1])) ?_
      refine V_regionX Γ Δ [] [0, 1, 2, 6, 7, 8, 9, 10, 11, 12, 13, 14, 16, 28, 55, 61, 66, 80, 81, 82, 83] (evs ?_)
      all_goals (try with_reducible (repeat' (first | apply And.intro | intro _)))
      all_goals (try (first | with_reducible refine wa_id ?_ | exact True.intro | omega | exact els_fn _ | exact heights_fn _ _ (els_wd a) (els_wd b) (els_len a) (els_len b) | exact row_fn _ _ (els_wd a) (els_len a) | exact row_fn _ _ (els_wd b) (els_len b) | exact combCommon_fn _ _ (Nat.le_trans (rowF_len _ _) (els_len a)) (Nat.le_trans (rowF_len _ _) (els_len b)) | exact goes_fn _ _ _ (lastB_wd hok.wd)))
      refine V_cond (evs ?_)
      refine ⟨fun hc => ?_, fun hc => ?_⟩
      · refine V_exit (evs ?_)
        refine V_regionX Γ Δ [] [0, 1, 2, 6, 7, 8, 9, 10, 11, 12, 13, 14, 16, 28, 55, 61, 66, 80, 81, 82, 83] (evs ?_)
        all_goals (try with_reducible (repeat' (first | apply And.intro | intro _)))
        all_goals (try (first | with_reducible refine wa_id ?_ | exact True.intro | omega | exact els_fn _ | exact heights_fn _ _ (els_wd a) (els_wd b) (els_len a) (els_len b) | exact row_fn _ _ (els_wd a) (els_len a) | exact row_fn _ _ (els_wd b) (els_len b) | exact combCommon_fn _ _ (Nat.le_trans (rowF_len _ _) (els_len a)) (Nat.le_trans (rowF_len _ _) (els_len b)) | exact goes_fn _ _ _ (lastB_wd hok.wd)))
        refine V_next [] (k + 1) (evs ?_) ?_ ?_
        all_goals (try with_reducible (repeat' (first | apply And.intro | intro _)))
        all_goals (first | exact True.intro | omega | (first | exact w64l (n := 2000) (by omega) (by omega) | (rw [ck_0 hc]; done) | exact cky1 ‹_› hgw hA hc | (rw [(ck_y ‹_› hgw).2.1]; done) | (rw [(ck_y ‹_› hgw).2.2]; done) | exact (ckn1 ‹_› hgw hc).1 | exact (ckn1 ‹_› hgw hc).2.1 | exact (ckn1 ‹_› hgw hc).2.2))
      · refine WA_skip ?_
        refine WA_seq (x := (fcd Tryz.f46 [1, 1, 1, 1, 1, 0, 1, 0, 0, 1, 0, 0, 1, 1, 1, 0])) (y := (fcd Tryz.f46 [1, 1, 1, 1, 1, 0, 1, 0, 0, 1, 0, 0, 1, 1, 1, 1])) ?_
        refine WA_seq (x := (fcd Tryz.f46 [1, 1, 1, 1, 1, 0, 1, 0, 0, 1, 0, 0, 1, 1, 1, 0, 0])) (y := (fcd Tryz.f46 [1, 1, 1, 1, 1, 0, 1, 0, 0, 1, 0, 0, 1, 1, 1, 0, 1])) ?_
        refine V_regionX Γ Δ [] [0, 1, 2, 6, 7, 8, 9, 10, 11, 12, 13, 14, 16, 28, 55, 61, 66, 80, 81, 82, 83] (evs ?_)
        have hbl := begB_le (canK (rowKp (fun x y => (x && y)) (els a) (els b)) (hgtF (els a) (els b)) k)
        have hbm := begB_lt hok.ne
        simp only [tk_last, mapRc]
        all_goals (try with_reducible (repeat' (first | apply And.intro | intro _)))
        all_goals (try (first | with_reducible refine wa_id ?_ | exact True.intro | exact goes_fn _ _ _ (by assumption) | omega | exact els_fn _ | exact heights_fn _ _ (els_wd a) (els_wd b) (els_len a) (els_len b) | exact row_fn _ _ (els_wd a) (els_len a) | exact row_fn _ _ (els_wd b) (els_len b) | exact combCommon_fn _ _ (Nat.le_trans (rowF_len _ _) (els_len a)) (Nat.le_trans (rowF_len _ _) (els_len b)) | exact goes_fn _ _ _ (lastB_wd hok.wd)))
        refine V_cond (evs ?_)
        refine ⟨fun hc => ?_, fun hc => ?_⟩
        · refine WA_seq (x := (fcd Tryz.f46 [1, 1, 1, 1, 1, 0, 1, 0, 0, 1, 0, 0, 1, 1, 1, 0, 1, 0, 0])) (y := (fcd Tryz.f46 [1, 1, 1, 1, 1, 0, 1, 0, 0, 1, 0, 0, 1, 1, 1, 0, 1, 0, 1])) ?_
          refine WA_seq (x := (fcd Tryz.f46 [1, 1, 1, 1, 1, 0, 1, 0, 0, 1, 0, 0, 1, 1, 1, 0, 1, 0, 0, 0])) (y := (fcd Tryz.f46 [1, 1, 1, 1, 1, 0, 1, 0, 0, 1, 0, 0, 1, 1, 1, 0, 1, 0, 0, 1])) ?_
          refine V_regionX Γ Δ [] [0, 1, 2, 6, 7, 8, 9, 10, 11, 12, 13, 14, 16, 28, 55, 61, 66, 80, 81, 82, 83] (evs ?_)
          have hgw := hc
          all_goals (try with_reducible (repeat' (first | apply And.intro | intro _)))
          all_goals (try (first | with_reducible refine wa_id ?_ | exact True.intro | omega | exact els_fn _ | exact heights_fn _ _ (els_wd a) (els_wd b) (els_len a) (els_len b) | exact row_fn _ _ (els_wd a) (els_len a) | exact row_fn _ _ (els_wd b) (els_len b) | exact combCommon_fn _ _ (Nat.le_trans (rowF_len _ _) (els_len a)) (Nat.le_trans (rowF_len _ _) (els_len b)) | exact goes_fn _ _ _ (lastB_wd hok.wd)))
          refine WA_block (c := (fcd Tryz.f46 [1, 1, 1, 1, 1, 0, 1, 0, 0, 1, 0, 0, 1, 1, 1, 0, 1, 0, 0, 1, 0])) ?_
          refine V_loop (c := (fcd Tryz.f46 [1, 1, 1, 1, 1, 0, 1, 0, 0, 1, 0, 0, 1, 1, 1, 0, 1, 0, 0, 1, 0, 0])) (α := Nat) [8, 14, 66] [20000] (fun i => [(14, .dat (.i (i : Int))), (8, .vw 20001 0 (flatB (canK (rowKp (fun x y => (x && y)) (els a) (els b)) (hgtF (els a) (els b)) k)).length 4)]) (fun i => [(20001, some (true, .arr 34 4 ((hupL (flatB (canK (rowKp (fun x y => (x && y)) (els a) (els b)) (hgtF (els a) (els b)) k)) (begB (canK (rowKp (fun x y => (x && y)) (els a) (els b)) (hgtF (els a) (els b)) k)) ((hgtF (els a) (els b)).getD (k + 1) 0 - (hgtF (els a) (els b)).getD k 0) i).map rcC)))]) (fun i => begB (canK (rowKp (fun x y => (x && y)) (els a) (els b)) (hgtF (els a) (els b)) k) ≤ i ∧ i ≤ (flatB (canK (rowKp (fun x y => (x && y)) (els a) (els b)) (hgtF (els a) (els b)) k)).length) (fun i => (flatB (canK (rowKp (fun x y => (x && y)) (els a) (els b)) (hgtF (els a) (els b)) k)).length - i) (begB (canK (rowKp (fun x y => (x && y)) (els a) (els b)) (hgtF (els a) (els b)) k)) [(20001, some 20000)] ?_ (evs ?_) ?_
          · exact ⟨Nat.le_refl _, begB_le _⟩
          · (try with_reducible (repeat' (first | apply And.intro | intro _)))
            all_goals (first | exact True.intro | omega | (first | rfl | (rw [hup_0]; done)))
          · intro i hA
            refine WA_seq (x := (fcd Tryz.f46 [1, 1, 1, 1, 1, 0, 1, 0, 0, 1, 0, 0, 1, 1, 1, 0, 1, 0, 0, 1, 0, 0, 0])) (y := (fcd Tryz.f46 [1, 1, 1, 1, 1, 0, 1, 0, 0, 1, 0, 0, 1, 1, 1, 0, 1, 0, 0, 1, 0, 0, 1])) ?_
            refine WA_seq (x := (fcd Tryz.f46 [1, 1, 1, 1, 1, 0, 1, 0, 0, 1, 0, 0, 1, 1, 1, 0, 1, 0, 0, 1, 0, 0, 0, 0])) (y := (fcd Tryz.f46 [1, 1, 1, 1, 1, 0, 1, 0, 0, 1, 0, 0, 1, 1, 1, 0, 1, 0, 0, 1, 0, 0, 0, 1])) ?_
            refine V_regionX Γ Δ [] [0, 1, 2, 6, 7, 8, 9, 10, 11, 12, 13, 14, 16, 28, 55, 61, 66, 80, 81, 82, 83] (evs ?_)
            all_goals (try with_reducible (repeat' (first | apply And.intro | intro _)))
            all_goals (try (first | with_reducible refine wa_id ?_ | exact True.intro | omega | exact els_fn _ | exact heights_fn _ _ (els_wd a) (els_wd b) (els_len a) (els_len b) | exact row_fn _ _ (els_wd a) (els_len a) | exact row_fn _ _ (els_wd b) (els_len b) | exact combCommon_fn _ _ (Nat.le_trans (rowF_len _ _) (els_len a)) (Nat.le_trans (rowF_len _ _) (els_len b)) | exact goes_fn _ _ _ (lastB_wd hok.wd)))
            refine V_cond (evs ?_)
            refine ⟨fun hc => ?_, fun hc => ?_⟩
            · refine WA_skip ?_
              refine WA_seq (x := (fcd Tryz.f46 [1, 1, 1, 1, 1, 0, 1, 0, 0, 1, 0, 0, 1, 1, 1, 0, 1, 0, 0, 1, 0, 0, 1, 0])) (y := (fcd Tryz.f46 [1, 1, 1, 1, 1, 0, 1, 0, 0, 1, 0, 0, 1, 1, 1, 0, 1, 0, 0, 1, 0, 0, 1, 1])) ?_
              refine WA_block (c := (fcd Tryz.f46 [1, 1, 1, 1, 1, 0, 1, 0, 0, 1, 0, 0, 1, 1, 1, 0, 1, 0, 0, 1, 0, 0, 1, 0, 0])) ?_
              refine V_regionX Γ Δ [] [0, 1, 2, 6, 7, 8, 9, 10, 11, 12, 13, 14, 16, 28, 55, 61, 66, 80, 81, 82, 83] (evs ?_)
              have hup1 := hup_at (L := flatB (canK (rowKp (fun x y => (x && y)) (els a) (els b)) (hgtF (els a) (els b)) k)) (b := begB (canK (rowKp (fun x y => (x && y)) (els a) (els b)) (hgtF (els a) (els b)) k)) (i := i) (h := (hgtF (els a) (els b)).getD (k + 1) 0 - (hgtF (els a) (els b)).getD k 0) hA.1 (by omega)
              have hup2 := wd_at hok.wd (k := i) ‹_›
              have hup3 := hup_len (L := flatB (canK (rowKp (fun x y => (x && y)) (els a) (els b)) (hgtF (els a) (els b)) k)) (b := begB (canK (rowKp (fun x y => (x && y)) (els a) (els b)) (hgtF (els a) (els b)) k)) (i := i) (h := (hgtF (els a) (els b)).getD (k + 1) 0 - (hgtF (els a) (els b)).getD k 0) hA.1 hA.2
              try simp only [hup1]
              (try simp (maxSteps := 10000000) (disch := omega) only [w64])
              all_goals (try with_reducible (repeat' (first | apply And.intro | intro _)))
              all_goals (try (first | with_reducible refine wa_id ?_ | exact True.intro | omega | exact els_fn _ | exact heights_fn _ _ (els_wd a) (els_wd b) (els_len a) (els_len b) | exact row_fn _ _ (els_wd a) (els_len a) | exact row_fn _ _ (els_wd b) (els_len b) | exact combCommon_fn _ _ (Nat.le_trans (rowF_len _ _) (els_len a)) (Nat.le_trans (rowF_len _ _) (els_len b)) | exact goes_fn _ _ _ (lastB_wd hok.wd)))
              refine V_regionX Γ Δ [] [0, 1, 2, 6, 7, 8, 9, 10, 11, 12, 13, 14, 16, 28, 55, 61, 66, 80, 81, 82, 83] (evs ?_)
              all_goals (try with_reducible (repeat' (first | apply And.intro | intro _)))
              all_goals (try (first | with_reducible refine wa_id ?_ | exact True.intro | omega | exact els_fn _ | exact heights_fn _ _ (els_wd a) (els_wd b) (els_len a) (els_len b) | exact row_fn _ _ (els_wd a) (els_len a) | exact row_fn _ _ (els_wd b) (els_len b) | exact combCommon_fn _ _ (Nat.le_trans (rowF_len _ _) (els_len a)) (Nat.le_trans (rowF_len _ _) (els_len b)) | exact goes_fn _ _ _ (lastB_wd hok.wd)))
              refine V_next [] (i + 1) (evs ?_) ?_ ?_
              all_goals (try with_reducible (repeat' (first | apply And.intro | intro _)))
              all_goals (first | exact True.intro | omega | (first | exact w64l (n := 2000000) (by have := hok.le; omega) (by omega) | exact hup_m hA.1 ‹_›))
            · refine V_exit (evs ?_)
              refine V_exit (evs ?_)
              refine V_regionX Γ Δ [] [0, 1, 2, 6, 7, 8, 9, 10, 11, 12, 13, 14, 16, 28, 55, 61, 66, 80, 81, 82, 83] (evs ?_)
              all_goals (try with_reducible (repeat' (first | apply And.intro | intro _)))
              all_goals (try (first | with_reducible refine wa_id ?_ | exact True.intro | omega | exact els_fn _ | exact heights_fn _ _ (els_wd a) (els_wd b) (els_len a) (els_len b) | exact row_fn _ _ (els_wd a) (els_len a) | exact row_fn _ _ (els_wd b) (els_len b) | exact combCommon_fn _ _ (Nat.le_trans (rowF_len _ _) (els_len a)) (Nat.le_trans (rowF_len _ _) (els_len b)) | exact goes_fn _ _ _ (lastB_wd hok.wd)))
              refine V_next [(20000, some 20001)] (k + 1) (evs ?_) ?_ ?_
              all_goals (try with_reducible (repeat' (first | apply And.intro | intro _)))
              all_goals (first | exact True.intro | omega | (first | exact w64l (n := 2000) (by omega) (by omega) | (rw [ck_0 hc]; done) | exact cky1 ‹_› hgw hA hc | (rw [(ck_y ‹_› hgw).2.1]; done) | (rw [(ck_y ‹_› hgw).2.2]; done) | exact (ckn1 ‹_› hgw hc).1 | exact (ckn1 ‹_› hgw hc).2.1 | exact (ckn1 ‹_› hgw hc).2.2))
        · refine WA_skip ?_
          refine WA_seq (x := (fcd Tryz.f46 [1, 1, 1, 1, 1, 0, 1, 0, 0, 1, 0, 0, 1, 1, 1, 1, 0])) (y := (fcd Tryz.f46 [1, 1, 1, 1, 1, 0, 1, 0, 0, 1, 0, 0, 1, 1, 1, 1, 1])) ?_
          refine V_regionX Γ Δ [] [0, 1, 2, 6, 7, 8, 9, 10, 11, 12, 13, 14, 16, 28, 55, 61, 66, 80, 81, 82, 83] (evs ?_)
          have hgw := hc
          all_goals (try with_reducible (repeat' (first | apply And.intro | intro _)))
          all_goals (try (first | with_reducible refine wa_id ?_ | exact True.intro | omega | exact els_fn _ | exact heights_fn _ _ (els_wd a) (els_wd b) (els_len a) (els_len b) | exact row_fn _ _ (els_wd a) (els_len a) | exact row_fn _ _ (els_wd b) (els_len b) | exact combCommon_fn _ _ (Nat.le_trans (rowF_len _ _) (els_len a)) (Nat.le_trans (rowF_len _ _) (els_len b)) | exact goes_fn _ _ _ (lastB_wd hok.wd)))
          refine WA_seq (x := (fcd Tryz.f46 [1, 1, 1, 1, 1, 0, 1, 0, 0, 1, 0, 0, 1, 1, 1, 1, 1, 0])) (y := (fcd Tryz.f46 [1, 1, 1, 1, 1, 0, 1, 0, 0, 1, 0, 0, 1, 1, 1, 1, 1, 1])) ?_
          refine V_regionX Γ Δ [] [0, 1, 2, 6, 7, 8, 9, 10, 11, 12, 13, 14, 16, 28, 55, 61, 66, 80, 81, 82, 83] (evs ?_)
          all_goals (try with_reducible (repeat' (first | apply And.intro | intro _)))
          all_goals (try (first | with_reducible refine wa_id ?_ | exact True.intro | omega | exact els_fn _ | exact heights_fn _ _ (els_wd a) (els_wd b) (els_len a) (els_len b) | exact row_fn _ _ (els_wd a) (els_len a) | exact row_fn _ _ (els_wd b) (els_len b) | exact combCommon_fn _ _ (Nat.le_trans (rowF_len _ _) (els_len a)) (Nat.le_trans (rowF_len _ _) (els_len b)) | exact goes_fn _ _ _ (lastB_wd hok.wd)))
          refine WA_block (c := (fcd Tryz.f46 [1, 1, 1, 1, 1, 0, 1, 0, 0, 1, 0, 0, 1, 1, 1, 1, 1, 1, 0])) ?_
          refine V_loop (c := (fcd Tryz.f46 [1, 1, 1, 1, 1, 0, 1, 0, 0, 1, 0, 0, 1, 1, 1, 1, 1, 1, 0, 0])) (α := Nat) [8, 16, 82, 83] [16, 97, 98, 20000] (fun m => [(82, .dat (.i (m : Int))), (8, .vw 20002 0 (apB (canK (rowKp (fun x y => (x && y)) (els a) (els b)) (hgtF (els a) (els b)) k) ((hgtF (els a) (els b)).getD k 0) ((hgtF (els a) (els b)).getD (k + 1) 0 - (hgtF (els a) (els b)).getD k 0) ((rowKp (fun x y => (x && y)) (els a) (els b)) ((hgtF (els a) (els b)).getD k 0)) m).length 4)]) (fun m => [(20002, some (true, .arr 34 4 ((apB (canK (rowKp (fun x y => (x && y)) (els a) (els b)) (hgtF (els a) (els b)) k) ((hgtF (els a) (els b)).getD k 0) ((hgtF (els a) (els b)).getD (k + 1) 0 - (hgtF (els a) (els b)).getD k 0) ((rowKp (fun x y => (x && y)) (els a) (els b)) ((hgtF (els a) (els b)).getD k 0)) m).map rcC)))]) (fun m => m ≤ ((rowKp (fun x y => (x && y)) (els a) (els b)) ((hgtF (els a) (els b)).getD k 0)).length) (fun m => ((rowKp (fun x y => (x && y)) (els a) (els b)) ((hgtF (els a) (els b)).getD k 0)).length - m) 0 [(20002, some 20000)] ?_ (evs ?_) ?_
          · exact Nat.zero_le _
          · (try with_reducible (repeat' (first | apply And.intro | intro _)))
            all_goals (first | exact True.intro | omega | (first | rfl | (rw [apB_0]; done)))
          · intro m hA
            refine WA_seq (x := (fcd Tryz.f46 [1, 1, 1, 1, 1, 0, 1, 0, 0, 1, 0, 0, 1, 1, 1, 1, 1, 1, 0, 0, 0])) (y := (fcd Tryz.f46 [1, 1, 1, 1, 1, 0, 1, 0, 0, 1, 0, 0, 1, 1, 1, 1, 1, 1, 0, 0, 1])) ?_
            refine V_regionX Γ Δ [] [0, 1, 2, 6, 7, 8, 9, 10, 11, 12, 13, 14, 16, 28, 55, 61, 66, 80, 81, 82, 83] (evs ?_)
            all_goals (try with_reducible (repeat' (first | apply And.intro | intro _)))
            all_goals (try (first | with_reducible refine wa_id ?_ | exact True.intro | omega | exact els_fn _ | exact heights_fn _ _ (els_wd a) (els_wd b) (els_len a) (els_len b) | exact row_fn _ _ (els_wd a) (els_len a) | exact row_fn _ _ (els_wd b) (els_len b) | exact combCommon_fn _ _ (Nat.le_trans (rowF_len _ _) (els_len a)) (Nat.le_trans (rowF_len _ _) (els_len b)) | exact goes_fn _ _ _ (lastB_wd hok.wd)))
            refine WA_seq (x := (fcd Tryz.f46 [1, 1, 1, 1, 1, 0, 1, 0, 0, 1, 0, 0, 1, 1, 1, 1, 1, 1, 0, 0, 1, 0])) (y := (fcd Tryz.f46 [1, 1, 1, 1, 1, 0, 1, 0, 0, 1, 0, 0, 1, 1, 1, 1, 1, 1, 0, 0, 1, 1])) ?_
            refine V_cond (evs ?_)
            refine ⟨fun hc => ?_, fun hc => ?_⟩
            · refine WA_skip ?_
              refine WA_seq (x := (fcd Tryz.f46 [1, 1, 1, 1, 1, 0, 1, 0, 0, 1, 0, 0, 1, 1, 1, 1, 1, 1, 0, 0, 1, 1, 0])) (y := (fcd Tryz.f46 [1, 1, 1, 1, 1, 0, 1, 0, 0, 1, 0, 0, 1, 1, 1, 1, 1, 1, 0, 0, 1, 1, 1])) ?_
              refine WA_block (c := (fcd Tryz.f46 [1, 1, 1, 1, 1, 0, 1, 0, 0, 1, 0, 0, 1, 1, 1, 1, 1, 1, 0, 0, 1, 1, 0, 0])) ?_
              refine WA_seq (x := (fcd Tryz.f46 [1, 1, 1, 1, 1, 0, 1, 0, 0, 1, 0, 0, 1, 1, 1, 1, 1, 1, 0, 0, 1, 1, 0, 0, 0])) (y := (fcd Tryz.f46 [1, 1, 1, 1, 1, 0, 1, 0, 0, 1, 0, 0, 1, 1, 1, 1, 1, 1, 0, 0, 1, 1, 0, 0, 1])) ?_
              refine V_regionX Γ Δ [] [0, 1, 2, 6, 7, 8, 9, 10, 11, 12, 13, 14, 16, 28, 55, 61, 66, 80, 81, 82, 83] (evs ?_)
              all_goals (try with_reducible (repeat' (first | apply And.intro | intro _)))
              all_goals (try (first | with_reducible refine wa_id ?_ | exact True.intro | omega | exact els_fn _ | exact heights_fn _ _ (els_wd a) (els_wd b) (els_len a) (els_len b) | exact row_fn _ _ (els_wd a) (els_len a) | exact row_fn _ _ (els_wd b) (els_len b) | exact combCommon_fn _ _ (Nat.le_trans (rowF_len _ _) (els_len a)) (Nat.le_trans (rowF_len _ _) (els_len b)) | exact goes_fn _ _ _ (lastB_wd hok.wd)))
              refine V_regionX Γ Δ [] [0, 1, 2, 6, 7, 8, 9, 10, 11, 12, 13, 14, 16, 28, 55, 61, 66, 80, 81, 82, 83] (evs ?_)
              have hrm := rwok_at hrk.1 (k := m) ‹_›
              have hal := apB_len (canK (rowKp (fun x y => (x && y)) (els a) (els b)) (hgtF (els a) (els b)) k) ((hgtF (els a) (els b)).getD k 0) ((hgtF (els a) (els b)).getD (k + 1) 0 - (hgtF (els a) (els b)).getD k 0) ((rowKp (fun x y => (x && y)) (els a) (els b)) ((hgtF (els a) (els b)).getD k 0)) m
              have hle := hok.le
              (try simp (maxSteps := 10000000) (disch := omega) only [w64])
              all_goals (try with_reducible (repeat' (first | apply And.intro | intro _)))
              all_goals (try (first | with_reducible refine wa_id ?_ | exact True.intro | omega | exact els_fn _ | exact heights_fn _ _ (els_wd a) (els_wd b) (els_len a) (els_len b) | exact row_fn _ _ (els_wd a) (els_len a) | exact row_fn _ _ (els_wd b) (els_len b) | exact combCommon_fn _ _ (Nat.le_trans (rowF_len _ _) (els_len a)) (Nat.le_trans (rowF_len _ _) (els_len b)) | exact goes_fn _ _ _ (lastB_wd hok.wd)))
              refine V_regionX Γ Δ [] [0, 1, 2, 6, 7, 8, 9, 10, 11, 12, 13, 14, 16, 28, 55, 61, 66, 80, 81, 82, 83] (evs ?_)
              all_goals (try with_reducible (repeat' (first | apply And.intro | intro _)))
              all_goals (try (first | with_reducible refine wa_id ?_ | exact True.intro | omega | exact els_fn _ | exact heights_fn _ _ (els_wd a) (els_wd b) (els_len a) (els_len b) | exact row_fn _ _ (els_wd a) (els_len a) | exact row_fn _ _ (els_wd b) (els_len b) | exact combCommon_fn _ _ (Nat.le_trans (rowF_len _ _) (els_len a)) (Nat.le_trans (rowF_len _ _) (els_len b)) | exact goes_fn _ _ _ (lastB_wd hok.wd)))
              refine V_next [(20002, some 98)] (m + 1) (evs ?_) ?_ ?_
              all_goals (try with_reducible (repeat' (first | apply And.intro | intro _)))
              all_goals (first | exact True.intro | omega | (first | exact w64l (n := 2000) (by omega) (by omega) | (rw [apB_s ‹_›, List.map_append]; rfl) | (rw [apB_s ‹_›, List.length_append]; rfl)))
            · refine V_exit (evs ?_)
              refine V_regionX Γ Δ [] [0, 1, 2, 6, 7, 8, 9, 10, 11, 12, 13, 14, 16, 28, 55, 61, 66, 80, 81, 82, 83] (evs ?_)
              all_goals (try with_reducible (repeat' (first | apply And.intro | intro _)))
              all_goals (try (first | with_reducible refine wa_id ?_ | exact True.intro | omega | exact els_fn _ | exact heights_fn _ _ (els_wd a) (els_wd b) (els_len a) (els_len b) | exact row_fn _ _ (els_wd a) (els_len a) | exact row_fn _ _ (els_wd b) (els_len b) | exact combCommon_fn _ _ (Nat.le_trans (rowF_len _ _) (els_len a)) (Nat.le_trans (rowF_len _ _) (els_len b)) | exact goes_fn _ _ _ (lastB_wd hok.wd)))
              refine V_next [(20000, some 20002)] (k + 1) (evs ?_) ?_ ?_
              all_goals (try with_reducible (repeat' (first | apply And.intro | intro _)))
              all_goals (first | exact True.intro | omega | (first | exact w64l (n := 2000) (by omega) (by omega) | (rw [ck_0 hc]; done) | exact cky1 ‹_› hgw hA hc | (rw [(ck_y ‹_› hgw).2.1]; done) | (rw [(ck_y ‹_› hgw).2.2]; done) | exact (ckn1 ‹_› hgw hc).1 | exact (ckn1 ‹_› hgw hc).2.1 | exact (ckn1 ‹_› hgw hc).2.2))
    · refine V_exit (evs ?_)
      refine WA_seq (x := (fcd Tryz.f46 [1, 1, 1, 1, 1, 1, 0])) (y := (fcd Tryz.f46 [1, 1, 1, 1, 1, 1, 1])) ?_
      refine V_regionX Γ Δ [] [0, 1, 2, 6, 7, 8, 9, 10, 11, 12, 13, 14, 16, 28, 55, 61, 66, 80, 81, 82, 83] (evs ?_)
      all_goals (try with_reducible (repeat' (first | apply And.intro | intro _)))
      all_goals (try (first | with_reducible refine wa_id ?_ | exact True.intro | omega | exact els_fn _ | exact heights_fn _ _ (els_wd a) (els_wd b) (els_len a) (els_len b) | exact row_fn _ _ (els_wd a) (els_len a) | exact row_fn _ _ (els_wd b) (els_len b) | exact combCommon_fn _ _ (Nat.le_trans (rowF_len _ _) (els_len a)) (Nat.le_trans (rowF_len _ _) (els_len b)) | exact goes_fn _ _ _ (lastB_wd hok.wd)))
      refine V_ret (evs ?_)
      first | exact congrArg (fun l => List.map rcC (flatB l)) (ck_all hI hc) | exact ⟨congrArg (fun l => (flatB l).length) (ck_all hI hc), congrArg (fun l => List.map rcC (flatB l)) (ck_all hI hc)⟩

end Go.S03

