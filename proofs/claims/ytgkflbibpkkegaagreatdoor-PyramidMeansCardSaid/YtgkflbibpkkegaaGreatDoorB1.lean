import Derived.Test.YtgkflbibpkkegaaGreatDoorA0
set_option linter.unusedSimpArgs false
set_option linter.unusedVariables false
set_option linter.unusedSimpArgs false
set_option linter.unusedVariables false
namespace Go.S35
open Go.RowKit Go.Proofs Go.Eng Go.Rect
theorem psize_fn (w h l : Int) : Eng.Fn Tryz.prog 8 [.i w, .i h, .i l] (.tup [.dat (.i (szK w l)), .dat (.i (szK h l))]) := by
  have b1 := cl_bd w
  have b2 := cl_bd h
  have b3 := cl4_bd l
  refine Eng.Fn.by (fn := Tryz.f8) 25 [.tmp 6, .tmp 7] Tryz.func8 rfl Tryz.ntmps8 rfl (by simp) fun w0 G0 => ?_
  refine WA_seq (x := (fcd Tryz.f8 [0])) (y := (fcd Tryz.f8 [1])) ?_
  refine V_regionX Γ Δ [] [0, 1, 2, 6, 7, 13, 14, 15] (evs ?_)
  all_goals (try with_reducible (repeat' (first | apply And.intro | intro _)))
  all_goals (try (first | with_reducible refine wa_id ?_ | exact True.intro | omega))
  refine WA_seq (x := (fcd Tryz.f8 [1, 0])) (y := (fcd Tryz.f8 [1, 1])) ?_
  refine V_regionX Γ Δ [] [0, 1, 2, 6, 7, 13, 14, 15] (evs ?_)
  all_goals (try with_reducible (repeat' (first | apply And.intro | intro _)))
  all_goals (try (first | with_reducible refine wa_id ?_ | exact True.intro | exact clamp_fn _ _ _ | omega))
  refine WA_seq (x := (fcd Tryz.f8 [1, 1, 0])) (y := (fcd Tryz.f8 [1, 1, 1])) ?_
  refine V_regionX Γ Δ [] [0, 1, 2, 6, 7, 13, 14, 15] (evs ?_)
  all_goals (try with_reducible (repeat' (first | apply And.intro | intro _)))
  all_goals (try (first | with_reducible refine wa_id ?_ | exact True.intro | exact clamp_fn _ _ _ | omega))
  refine WA_seq (x := (fcd Tryz.f8 [1, 1, 1, 0])) (y := (fcd Tryz.f8 [1, 1, 1, 1])) ?_
  refine WA_seq (x := (fcd Tryz.f8 [1, 1, 1, 0, 0])) (y := (fcd Tryz.f8 [1, 1, 1, 0, 1])) ?_
  refine V_regionX Γ Δ [] [0, 1, 2, 6, 7, 13, 14, 15] (evs ?_)
  all_goals (try with_reducible (repeat' (first | apply And.intro | intro _)))
  all_goals (try (first | with_reducible refine wa_id ?_ | exact True.intro | exact clamp_fn _ _ _ | omega))
  refine WA_block (c := (fcd Tryz.f8 [1, 1, 1, 0, 1, 0])) ?_
  refine V_loop (c := (fcd Tryz.f8 [1, 1, 1, 0, 1, 0, 0])) (α := Nat) [0, 1, 14, 15] [] (fun k => [(14, .dat (.i (k : Int))), (0, .dat (.i (hfK (clampI w 0 256) k))), (1, .dat (.i (hfK (clampI h 0 256) k)))]) (fun k => []) (fun k => (k : Int) ≤ clampI l 0 4) (fun k => (clampI l 0 4).toNat - k) 0 [] ?_ (evs ?_) ?_
  · omega
  · (try with_reducible (repeat' (first | apply And.intro | intro _)))
    all_goals (first | exact True.intro | omega | (first | rfl))
  · intro k hI
    refine WA_seq (x := (fcd Tryz.f8 [1, 1, 1, 0, 1, 0, 0, 0])) (y := (fcd Tryz.f8 [1, 1, 1, 0, 1, 0, 0, 1])) ?_
    refine V_regionX Γ Δ [] [0, 1, 2, 6, 7, 13, 14, 15] (evs ?_)
    all_goals (try with_reducible (repeat' (first | apply And.intro | intro _)))
    all_goals (try (first | with_reducible refine wa_id ?_ | exact True.intro | omega))
    refine WA_seq (x := (fcd Tryz.f8 [1, 1, 1, 0, 1, 0, 0, 1, 0])) (y := (fcd Tryz.f8 [1, 1, 1, 0, 1, 0, 0, 1, 1])) ?_
    refine V_cond (evs ?_)
    refine ⟨fun hc => ?_, fun hc => ?_⟩
    · refine WA_skip ?_
      refine WA_seq (x := (fcd Tryz.f8 [1, 1, 1, 0, 1, 0, 0, 1, 1, 0])) (y := (fcd Tryz.f8 [1, 1, 1, 0, 1, 0, 0, 1, 1, 1])) ?_
      refine WA_block (c := (fcd Tryz.f8 [1, 1, 1, 0, 1, 0, 0, 1, 1, 0, 0])) ?_
      refine WA_seq (x := (fcd Tryz.f8 [1, 1, 1, 0, 1, 0, 0, 1, 1, 0, 0, 0])) (y := (fcd Tryz.f8 [1, 1, 1, 0, 1, 0, 0, 1, 1, 0, 0, 1])) ?_
      refine V_regionX Γ Δ [] [0, 1, 2, 6, 7, 13, 14, 15] (evs ?_)
      have c1 := hfK_bd b1 k
      simp only [hf_w c1]
      all_goals (try with_reducible (repeat' (first | apply And.intro | intro _)))
      all_goals (try (first | with_reducible refine wa_id ?_ | exact True.intro | omega))
      refine V_regionX Γ Δ [] [0, 1, 2, 6, 7, 13, 14, 15] (evs ?_)
      have c2 := hfK_bd b2 k
      simp only [hf_w c2]
      all_goals (try with_reducible (repeat' (first | apply And.intro | intro _)))
      all_goals (try (first | with_reducible refine wa_id ?_ | exact True.intro | omega))
      refine V_regionX Γ Δ [] [0, 1, 2, 6, 7, 13, 14, 15] (evs ?_)
      all_goals (try with_reducible (repeat' (first | apply And.intro | intro _)))
      all_goals (try (first | with_reducible refine wa_id ?_ | exact True.intro | omega))
      refine V_next [] (k + 1) (evs ?_) ?_ ?_
      all_goals (try with_reducible (repeat' (first | apply And.intro | intro _)))
      all_goals (first | exact True.intro | omega | (first | rfl | exact w64l (n := 8) (by omega) (by omega)))
    · refine V_exit (evs ?_)
      refine WA_seq (x := (fcd Tryz.f8 [1, 1, 1, 1, 0])) (y := (fcd Tryz.f8 [1, 1, 1, 1, 1])) ?_
      refine V_regionX Γ Δ [] [0, 1, 2, 6, 7, 13, 14, 15] (evs ?_)
      all_goals (try with_reducible (repeat' (first | apply And.intro | intro _)))
      all_goals (try (first | with_reducible refine wa_id ?_ | exact True.intro | omega))
      refine V_ret (evs ?_)
      first | exact True.intro | exact ⟨sz_e hI hc, sz_e hI hc⟩

theorem rsize_fn (w h l : Int) : Eng.Fn Tryz.prog 9 [.i w, .i h, .i l] (.tup [.dat (.i (szK w l)), .dat (.i (szK h l))]) := by
  have b1 := cl_bd w
  have b2 := cl_bd h
  have b3 := cl4_bd l
  refine Eng.Fn.by (fn := Tryz.f9) 28 [.tmp 6, .tmp 7] Tryz.func9 rfl Tryz.ntmps9 rfl (by simp) fun w0 G0 => ?_
  refine WA_seq (x := (fcd Tryz.f9 [0])) (y := (fcd Tryz.f9 [1])) ?_
  refine V_regionX Γ Δ [] [0, 1, 2, 6, 7, 8, 17] (evs ?_)
  all_goals (try with_reducible (repeat' (first | apply And.intro | intro _)))
  all_goals (try (first | with_reducible refine wa_id ?_ | exact True.intro | omega))
  refine WA_seq (x := (fcd Tryz.f9 [1, 0])) (y := (fcd Tryz.f9 [1, 1])) ?_
  refine V_regionX Γ Δ [] [0, 1, 2, 6, 7, 8, 17] (evs ?_)
  all_goals (try with_reducible (repeat' (first | apply And.intro | intro _)))
  all_goals (try (first | with_reducible refine wa_id ?_ | exact True.intro | exact rclamp_fn _ _ _ | omega))
  refine WA_seq (x := (fcd Tryz.f9 [1, 1, 0])) (y := (fcd Tryz.f9 [1, 1, 1])) ?_
  refine WA_seq (x := (fcd Tryz.f9 [1, 1, 0, 0])) (y := (fcd Tryz.f9 [1, 1, 0, 1])) ?_
  refine V_regionX Γ Δ [] [0, 1, 2, 6, 7, 8, 17] (evs ?_)
  all_goals (try with_reducible (repeat' (first | apply And.intro | intro _)))
  all_goals (try (first | with_reducible refine wa_id ?_ | exact True.intro | omega))
  refine WA_block (c := (fcd Tryz.f9 [1, 1, 0, 1, 0])) ?_
  refine V_loop (c := (fcd Tryz.f9 [1, 1, 0, 1, 0, 0])) (α := Nat) [0, 1, 8, 17] [] (fun k => [(8, .dat (.i (k : Int))), (0, .dat (.i (hfK (clampI w 0 256) k))), (1, .dat (.i (hfK (clampI h 0 256) k)))]) (fun k => []) (fun k => (k : Int) ≤ clampI l 0 4) (fun k => (clampI l 0 4).toNat - k) 0 [] ?_ (evs ?_) ?_
  · omega
  · (try with_reducible (repeat' (first | apply And.intro | intro _)))
    all_goals (first | exact True.intro | omega | (first | rfl))
  · intro k hI
    refine WA_seq (x := (fcd Tryz.f9 [1, 1, 0, 1, 0, 0, 0])) (y := (fcd Tryz.f9 [1, 1, 0, 1, 0, 0, 1])) ?_
    refine WA_seq (x := (fcd Tryz.f9 [1, 1, 0, 1, 0, 0, 0, 0])) (y := (fcd Tryz.f9 [1, 1, 0, 1, 0, 0, 0, 1])) ?_
    refine V_regionX Γ Δ [] [0, 1, 2, 6, 7, 8, 17] (evs ?_)
    all_goals (try with_reducible (repeat' (first | apply And.intro | intro _)))
    all_goals (try (first | with_reducible refine wa_id ?_ | exact True.intro | omega))
    refine V_cond (evs ?_)
    refine ⟨fun hc => ?_, fun hc => ?_⟩
    · refine WA_skip ?_
      refine WA_seq (x := (fcd Tryz.f9 [1, 1, 0, 1, 0, 0, 1, 0])) (y := (fcd Tryz.f9 [1, 1, 0, 1, 0, 0, 1, 1])) ?_
      refine WA_block (c := (fcd Tryz.f9 [1, 1, 0, 1, 0, 0, 1, 0, 0])) ?_
      refine V_regionX Γ Δ [] [0, 1, 2, 6, 7, 8, 17] (evs ?_)
      have c1 := hfK_bd b1 k
      have c2 := hfK_bd b2 k
      simp only [hf_w c1, hf_w c2]
      all_goals (try with_reducible (repeat' (first | apply And.intro | intro _)))
      all_goals (try (first | with_reducible refine wa_id ?_ | exact True.intro | omega))
      refine V_regionX Γ Δ [] [0, 1, 2, 6, 7, 8, 17] (evs ?_)
      all_goals (try with_reducible (repeat' (first | apply And.intro | intro _)))
      all_goals (try (first | with_reducible refine wa_id ?_ | exact True.intro | omega))
      refine V_next [] (k + 1) (evs ?_) ?_ ?_
      all_goals (try with_reducible (repeat' (first | apply And.intro | intro _)))
      all_goals (first | exact True.intro | omega | (first | rfl | exact w64l (n := 8) (by omega) (by omega)))
    · refine V_exit (evs ?_)
      refine WA_seq (x := (fcd Tryz.f9 [1, 1, 1, 0])) (y := (fcd Tryz.f9 [1, 1, 1, 1])) ?_
      refine V_regionX Γ Δ [] [0, 1, 2, 6, 7, 8, 17] (evs ?_)
      all_goals (try with_reducible (repeat' (first | apply And.intro | intro _)))
      all_goals (try (first | with_reducible refine wa_id ?_ | exact True.intro | omega))
      refine V_ret (evs ?_)
      first | exact True.intro | exact ⟨sz_e hI hc, sz_e hI hc⟩

theorem ptiles_fn (w h l : Int) : Eng.Fn Tryz.prog 10 [.i w, .i h, .i l] (.tup [.dat (.i (tlN (szK w l))), .dat (.i (tlN (szK h l)))]) := by
  refine Eng.Fn.by (fn := Tryz.f10) 23 [.tmp 6, .tmp 7] Tryz.func10 rfl Tryz.ntmps10 rfl (by simp) fun w0 G0 => ?_
  refine WA_seq (x := (fcd Tryz.f10 [0])) (y := (fcd Tryz.f10 [1])) ?_
  refine V_regionX Γ Δ [] [0, 1, 2, 6, 7] (evs ?_)
  all_goals (try with_reducible (repeat' (first | apply And.intro | intro _)))
  all_goals (try (first | with_reducible refine wa_id ?_ | exact True.intro | omega))
  refine WA_seq (x := (fcd Tryz.f10 [1, 0])) (y := (fcd Tryz.f10 [1, 1])) ?_
  refine V_regionX Γ Δ [] [0, 1, 2, 6, 7] (evs ?_)
  all_goals (try with_reducible (repeat' (first | apply And.intro | intro _)))
  all_goals (try (first | with_reducible refine wa_id ?_ | exact True.intro | exact psize_fn _ _ _ | omega))
  refine WA_seq (x := (fcd Tryz.f10 [1, 1, 0])) (y := (fcd Tryz.f10 [1, 1, 1])) ?_
  refine V_regionX Γ Δ [] [0, 1, 2, 6, 7] (evs ?_)
  simp only [tl_w (szK_bd w l), tl_w (szK_bd h l)]
  all_goals (try with_reducible (repeat' (first | apply And.intro | intro _)))
  all_goals (try (first | with_reducible refine wa_id ?_ | exact True.intro | omega))
  refine V_ret (evs ?_)
  first | exact True.intro | rfl | exact ⟨rfl, rfl⟩

theorem rtiles_fn (w h l : Int) : Eng.Fn Tryz.prog 11 [.i w, .i h, .i l] (.tup [.dat (.i (tlN (szK w l))), .dat (.i (tlN (szK h l)))]) := by
  refine Eng.Fn.by (fn := Tryz.f11) 23 [.tmp 6, .tmp 7] Tryz.func11 rfl Tryz.ntmps11 rfl (by simp) fun w0 G0 => ?_
  refine WA_seq (x := (fcd Tryz.f11 [0])) (y := (fcd Tryz.f11 [1])) ?_
  refine V_regionX Γ Δ [] [0, 1, 2, 6, 7] (evs ?_)
  all_goals (try with_reducible (repeat' (first | apply And.intro | intro _)))
  all_goals (try (first | with_reducible refine wa_id ?_ | exact True.intro | omega))
  refine WA_seq (x := (fcd Tryz.f11 [1, 0])) (y := (fcd Tryz.f11 [1, 1])) ?_
  refine V_regionX Γ Δ [] [0, 1, 2, 6, 7] (evs ?_)
  all_goals (try with_reducible (repeat' (first | apply And.intro | intro _)))
  all_goals (try (first | with_reducible refine wa_id ?_ | exact True.intro | exact rsize_fn _ _ _ | omega))
  refine WA_seq (x := (fcd Tryz.f11 [1, 1, 0])) (y := (fcd Tryz.f11 [1, 1, 1])) ?_
  refine V_regionX Γ Δ [] [0, 1, 2, 6, 7] (evs ?_)
  simp only [tl_w (szK_bd w l), tl_w (szK_bd h l)]
  all_goals (try with_reducible (repeat' (first | apply And.intro | intro _)))
  all_goals (try (first | with_reducible refine wa_id ?_ | exact True.intro | omega))
  refine V_ret (evs ?_)
  first | exact True.intro | rfl | exact ⟨rfl, rfl⟩

end Go.S35

