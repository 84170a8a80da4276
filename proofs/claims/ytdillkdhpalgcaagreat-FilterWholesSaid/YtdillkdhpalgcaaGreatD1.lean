import Derived.Test.YtdillkdhpalgcaaGreatF16
set_option linter.unusedSimpArgs false
set_option linter.unusedVariables false
set_option linter.unusedSimpArgs false
set_option linter.unusedVariables false
namespace Go.S16
open Go.RowKit Go.Proofs Go.Eng Go.Rect
set_option maxRecDepth 100000 in
theorem mul64_fn (x y : Int) (hx0 : 0 ≤ x) (hx1 : x < 18446744073709551616) (hy0 : 0 ≤ y) (hy1 : y < 18446744073709551616) : Eng.Fn Tryz.prog 92 [.v (.int .u64 x), .v (.int .u64 y)] (.tup [.dat (.v (.int .u64 (x * y / 18446744073709551616))), .dat (.v (.int .u64 (x * y % 18446744073709551616)))]) := by
  obtain ⟨X, rfl⟩ := Int.eq_ofNat_of_zero_le hx0
  obtain ⟨Y, rfl⟩ := Int.eq_ofNat_of_zero_le hy0
  have hX : X < 18446744073709551616 := by omega
  have hY : Y < 18446744073709551616 := by omega
  obtain ⟨bd, bt, bw, hhi⟩ := Lib.mul64_hi X Y hX hY
  have ba := Lib.half_mul_le (a := X / 4294967296) (b := Y / 4294967296) (by omega) (by omega)
  have bb := Lib.half_mul_le (a := X / 4294967296) (b := Y % 4294967296) (by omega) (by omega)
  have bc := Lib.half_mul_le (a := X % 4294967296) (b := Y / 4294967296) (by omega) (by omega)
  refine Eng.Fn.by (fn := Tryz.f92) 51 [.tmp 4, .tmp 5] Tryz.func92 rfl Tryz.ntmps92 rfl (by simp) fun w0 G0 => ?_
  refine WA_seq (x := (fcd Tryz.f92 [0])) (y := (fcd Tryz.f92 [1])) ?_
  refine V_regionX Γ Δ [] [0, 1, 4, 5, 6, 7, 8, 9, 10, 11, 12, 13] (evs ?_)
  all_goals (try with_reducible (repeat' (first | apply And.intro | intro _)))
  all_goals (try (first | with_reducible refine wa_id ?_ | exact True.intro | omega | decide))
  refine WA_seq (x := (fcd Tryz.f92 [1, 0])) (y := (fcd Tryz.f92 [1, 1])) ?_
  refine V_regionX Γ Δ [] [0, 1, 4, 5, 6, 7, 8, 9, 10, 11, 12, 13] (evs ?_)
  all_goals (try with_reducible (repeat' (first | apply And.intro | intro _)))
  all_goals (try (first | with_reducible refine wa_id ?_ | exact True.intro | omega | decide))
  (try simp (maxSteps := 10000000) (disch := omega) only [ipow32, mk32, sh32, nMul, nAdd, wU])
  refine WA_seq (x := (fcd Tryz.f92 [1, 1, 0])) (y := (fcd Tryz.f92 [1, 1, 1])) ?_
  refine V_regionX Γ Δ [] [0, 1, 4, 5, 6, 7, 8, 9, 10, 11, 12, 13] (evs ?_)
  all_goals (try with_reducible (repeat' (first | apply And.intro | intro _)))
  all_goals (try (first | with_reducible refine wa_id ?_ | exact True.intro | omega | decide))
  (try simp (maxSteps := 10000000) (disch := omega) only [ipow32, mk32, sh32, nMul, nAdd, wU])
  refine WA_seq (x := (fcd Tryz.f92 [1, 1, 1, 0])) (y := (fcd Tryz.f92 [1, 1, 1, 1])) ?_
  refine V_regionX Γ Δ [] [0, 1, 4, 5, 6, 7, 8, 9, 10, 11, 12, 13] (evs ?_)
  all_goals (try with_reducible (repeat' (first | apply And.intro | intro _)))
  all_goals (try (first | with_reducible refine wa_id ?_ | exact True.intro | omega | decide))
  (try simp (maxSteps := 10000000) (disch := omega) only [ipow32, mk32, sh32, nMul, nAdd, wU])
  refine WA_seq (x := (fcd Tryz.f92 [1, 1, 1, 1, 0])) (y := (fcd Tryz.f92 [1, 1, 1, 1, 1])) ?_
  refine V_regionX Γ Δ [] [0, 1, 4, 5, 6, 7, 8, 9, 10, 11, 12, 13] (evs ?_)
  all_goals (try with_reducible (repeat' (first | apply And.intro | intro _)))
  all_goals (try (first | with_reducible refine wa_id ?_ | exact True.intro | omega | decide))
  (try simp (maxSteps := 10000000) (disch := omega) only [ipow32, mk32, sh32, nMul, nAdd, wU])
  refine WA_seq (x := (fcd Tryz.f92 [1, 1, 1, 1, 1, 0])) (y := (fcd Tryz.f92 [1, 1, 1, 1, 1, 1])) ?_
  refine V_regionX Γ Δ [] [0, 1, 4, 5, 6, 7, 8, 9, 10, 11, 12, 13] (evs ?_)
  all_goals (try with_reducible (repeat' (first | apply And.intro | intro _)))
  all_goals (try (first | with_reducible refine wa_id ?_ | exact True.intro | omega | decide))
  (try simp (maxSteps := 10000000) (disch := omega) only [ipow32, mk32, sh32, nMul, nAdd, wU])
  refine WA_seq (x := (fcd Tryz.f92 [1, 1, 1, 1, 1, 1, 0])) (y := (fcd Tryz.f92 [1, 1, 1, 1, 1, 1, 1])) ?_
  refine V_regionX Γ Δ [] [0, 1, 4, 5, 6, 7, 8, 9, 10, 11, 12, 13] (evs ?_)
  all_goals (try with_reducible (repeat' (first | apply And.intro | intro _)))
  all_goals (try (first | with_reducible refine wa_id ?_ | exact True.intro | omega | decide))
  (try simp (maxSteps := 10000000) (disch := omega) only [ipow32, mk32, sh32, nMul, nAdd, wU])
  refine WA_seq (x := (fcd Tryz.f92 [1, 1, 1, 1, 1, 1, 1, 0])) (y := (fcd Tryz.f92 [1, 1, 1, 1, 1, 1, 1, 1])) ?_
  refine V_regionX Γ Δ [] [0, 1, 4, 5, 6, 7, 8, 9, 10, 11, 12, 13] (evs ?_)
  all_goals (try with_reducible (repeat' (first | apply And.intro | intro _)))
  all_goals (try (first | with_reducible refine wa_id ?_ | exact True.intro | omega | decide))
  (try simp (maxSteps := 10000000) (disch := omega) only [ipow32, mk32, sh32, nMul, nAdd, wU])
  refine WA_seq (x := (fcd Tryz.f92 [1, 1, 1, 1, 1, 1, 1, 1, 0])) (y := (fcd Tryz.f92 [1, 1, 1, 1, 1, 1, 1, 1, 1])) ?_
  refine V_regionX Γ Δ [] [0, 1, 4, 5, 6, 7, 8, 9, 10, 11, 12, 13] (evs ?_)
  all_goals (try with_reducible (repeat' (first | apply And.intro | intro _)))
  all_goals (try (first | with_reducible refine wa_id ?_ | exact True.intro | omega | decide))
  (try simp (maxSteps := 10000000) (disch := omega) only [ipow32, mk32, sh32, nMul, nAdd, wU])
  refine WA_seq (x := (fcd Tryz.f92 [1, 1, 1, 1, 1, 1, 1, 1, 1, 0])) (y := (fcd Tryz.f92 [1, 1, 1, 1, 1, 1, 1, 1, 1, 1])) ?_
  refine V_regionX Γ Δ [] [0, 1, 4, 5, 6, 7, 8, 9, 10, 11, 12, 13] (evs ?_)
  all_goals (try with_reducible (repeat' (first | apply And.intro | intro _)))
  all_goals (try (first | with_reducible refine wa_id ?_ | exact True.intro | omega | decide))
  (try simp (maxSteps := 10000000) (disch := omega) only [ipow32, mk32, sh32, nMul, nAdd, wU])
  refine WA_seq (x := (fcd Tryz.f92 [1, 1, 1, 1, 1, 1, 1, 1, 1, 1, 0])) (y := (fcd Tryz.f92 [1, 1, 1, 1, 1, 1, 1, 1, 1, 1, 1])) ?_
  refine V_regionX Γ Δ [] [0, 1, 4, 5, 6, 7, 8, 9, 10, 11, 12, 13] (evs ?_)
  all_goals (try with_reducible (repeat' (first | apply And.intro | intro _)))
  all_goals (try (first | with_reducible refine wa_id ?_ | exact True.intro | omega | decide))
  (try simp (maxSteps := 10000000) (disch := omega) only [ipow32, mk32, sh32, nMul, nAdd, wU])
  refine WA_seq (x := (fcd Tryz.f92 [1, 1, 1, 1, 1, 1, 1, 1, 1, 1, 1, 0])) (y := (fcd Tryz.f92 [1, 1, 1, 1, 1, 1, 1, 1, 1, 1, 1, 1])) ?_
  refine V_regionX Γ Δ [] [0, 1, 4, 5, 6, 7, 8, 9, 10, 11, 12, 13] (evs ?_)
  all_goals (try with_reducible (repeat' (first | apply And.intro | intro _)))
  all_goals (try (first | with_reducible refine wa_id ?_ | exact True.intro | omega | decide))
  refine V_ret (evs ?_)
  refine ⟨vI ?_, vI ?_⟩
  · rw [hhi]; omega
  · rw [nMul, wUm]; omega

theorem mag_fn (a : Int) (h1 : -9223372036854775808 ≤ a) (h2 : a ≤ 9223372036854775807) : Eng.Fn Tryz.prog 93 [.i a] (.dat (.v (.int .u64 (absU a)))) := by
  refine Eng.Fn.by (fn := Tryz.f93) 10 [.tmp 2] Tryz.func93 rfl Tryz.ntmps93 rfl (by simp) fun w0 G0 => ?_
  refine WA_seq (x := (fcd Tryz.f93 [0])) (y := (fcd Tryz.f93 [1])) ?_
  refine V_regionX Γ Δ [] [0, 2, 4] (evs ?_)
  all_goals (try with_reducible (repeat' (first | apply And.intro | intro _)))
  all_goals (try (first | with_reducible refine wa_id ?_ | exact True.intro | omega))
  refine WA_seq (x := (fcd Tryz.f93 [1, 0])) (y := (fcd Tryz.f93 [1, 1])) ?_
  refine WA_seq (x := (fcd Tryz.f93 [1, 0, 0])) (y := (fcd Tryz.f93 [1, 0, 1])) ?_
  refine V_regionX Γ Δ [] [0, 2, 4] (evs ?_)
  all_goals (try with_reducible (repeat' (first | apply And.intro | intro _)))
  all_goals (try (first | with_reducible refine wa_id ?_ | exact True.intro | omega))
  refine V_cond (evs ?_)
  refine ⟨fun hc => ?_, fun hc => ?_⟩
  · refine WA_seq (x := (fcd Tryz.f93 [1, 0, 1, 0, 0])) (y := (fcd Tryz.f93 [1, 0, 1, 0, 1])) ?_
    refine V_regionX Γ Δ [] [0, 2, 4] (evs ?_)
    all_goals (try with_reducible (repeat' (first | apply And.intro | intro _)))
    all_goals (try (first | with_reducible refine wa_id ?_ | exact True.intro | omega))
    refine V_ret (evs ?_)
    first | exact ab1z h1 hc | exact ab2 h2 hc
  · refine WA_skip ?_
    refine WA_seq (x := (fcd Tryz.f93 [1, 1, 0])) (y := (fcd Tryz.f93 [1, 1, 1])) ?_
    refine V_regionX Γ Δ [] [0, 2, 4] (evs ?_)
    all_goals (try with_reducible (repeat' (first | apply And.intro | intro _)))
    all_goals (try (first | with_reducible refine wa_id ?_ | exact True.intro | omega))
    refine V_ret (evs ?_)
    first | exact ab1z h1 hc | exact ab2 h2 hc

end Go.S16

set_option linter.unusedSimpArgs false
set_option linter.unusedVariables false
namespace Go.S16
open Go.RowKit Go.Proofs Go.Eng Go.Rect
set_option maxHeartbeats 2000000 in
set_option maxRecDepth 100000 in
theorem hypot_fn (x y : Int) (h1 : -9223372036854775808 ≤ x) (h2 : x ≤ 9223372036854775807) (h3 : -9223372036854775808 ≤ y) (h4 : y ≤ 9223372036854775807) : Eng.Fn Tryz.prog 71 [.i x, .i y] (.dat (.i (hypI x y))) := by
  have ax := absU_2 x
  have ay := absU_2 y
  have hb := hyp_bd x y h1 (by omega) h3 (by omega)
  have eh := hy_hi hb.1 hb.2
  have el := hy_lo (x := x) (y := y)
  refine Eng.Fn.by (fn := Tryz.f71) 73 [.tmp 4] Tryz.func71 rfl Tryz.ntmps71 rfl (by simp) fun w0 G0 => ?_
  refine WA_seq (x := (fcd Tryz.f71 [0])) (y := (fcd Tryz.f71 [1])) ?_
  refine V_regionX Γ Δ [] [0, 1, 4, 5, 6, 7, 8, 9, 10, 11, 12, 43, 67, 70] (evs ?_)
  all_goals (try with_reducible (repeat' (first | apply And.intro | intro _)))
  all_goals (try (first | with_reducible refine wa_id ?_ | exact True.intro | omega | decide | exact ia94))
  refine WA_seq (x := (fcd Tryz.f71 [1, 0])) (y := (fcd Tryz.f71 [1, 1])) ?_
  refine V_regionX Γ Δ [] [0, 1, 4, 5, 6, 7, 8, 9, 10, 11, 12, 43, 67, 70] (evs ?_)
  all_goals (try with_reducible (repeat' (first | apply And.intro | intro _)))
  all_goals (try (first | with_reducible refine wa_id ?_ | exact True.intro | exact mag_fn _ (by omega) (by omega) | exact mul64_fn _ _ (by omega) (by omega) (by omega) (by omega) | omega | decide | exact ia94))
  refine WA_seq (x := (fcd Tryz.f71 [1, 1, 0])) (y := (fcd Tryz.f71 [1, 1, 1])) ?_
  refine V_regionX Γ Δ [] [0, 1, 4, 5, 6, 7, 8, 9, 10, 11, 12, 43, 67, 70] (evs ?_)
  all_goals (try with_reducible (repeat' (first | apply And.intro | intro _)))
  all_goals (try (first | with_reducible refine wa_id ?_ | exact True.intro | exact mag_fn _ (by omega) (by omega) | exact mul64_fn _ _ (by omega) (by omega) (by omega) (by omega) | omega | decide | exact ia94))
  simp only [ax, ay, nMul]
  refine WA_seq (x := (fcd Tryz.f71 [1, 1, 1, 0])) (y := (fcd Tryz.f71 [1, 1, 1, 1])) ?_
  refine V_regionX Γ Δ [] [0, 1, 4, 5, 6, 7, 8, 9, 10, 11, 12, 43, 67, 70] (evs ?_)
  all_goals (try with_reducible (repeat' (first | apply And.intro | intro _)))
  all_goals (try (first | with_reducible refine wa_id ?_ | exact True.intro | omega | decide | exact ia94))
  refine WA_seq (x := (fcd Tryz.f71 [1, 1, 1, 1, 0])) (y := (fcd Tryz.f71 [1, 1, 1, 1, 1])) ?_
  refine V_regionX Γ Δ [] [0, 1, 4, 5, 6, 7, 8, 9, 10, 11, 12, 43, 67, 70] (evs ?_)
  all_goals (try with_reducible (repeat' (first | apply And.intro | intro _)))
  all_goals (try (first | with_reducible refine wa_id ?_ | exact True.intro | omega | decide | exact ia94))
  simp only [eh, el]
  refine WA_seq (x := (fcd Tryz.f71 [1, 1, 1, 1, 1, 0])) (y := (fcd Tryz.f71 [1, 1, 1, 1, 1, 1])) ?_
  refine V_regionX Γ Δ [] [0, 1, 4, 5, 6, 7, 8, 9, 10, 11, 12, 43, 67, 70] (evs ?_)
  all_goals (try with_reducible (repeat' (first | apply And.intro | intro _)))
  all_goals (try (first | with_reducible refine wa_id ?_ | exact True.intro | omega | decide | exact ia94))
  refine WA_seq (x := (fcd Tryz.f71 [1, 1, 1, 1, 1, 1, 0])) (y := (fcd Tryz.f71 [1, 1, 1, 1, 1, 1, 1])) ?_
  refine WA_seq (x := (fcd Tryz.f71 [1, 1, 1, 1, 1, 1, 0, 0])) (y := (fcd Tryz.f71 [1, 1, 1, 1, 1, 1, 0, 1])) ?_
  refine V_regionX Γ Δ [] [0, 1, 4, 5, 6, 7, 8, 9, 10, 11, 12, 43, 67, 70] (evs ?_)
  all_goals (try with_reducible (repeat' (first | apply And.intro | intro _)))
  all_goals (try (first | with_reducible refine wa_id ?_ | exact True.intro | omega | decide | exact ia94))
  refine WA_block (c := (fcd Tryz.f71 [1, 1, 1, 1, 1, 1, 0, 1, 0])) ?_
  refine V_loop (c := (fcd Tryz.f71 [1, 1, 1, 1, 1, 1, 0, 1, 0, 0])) (α := Nat) [7, 8, 10, 11, 12, 43, 67] [15200, 15201, 15202, 15203] (fun j => [(11, .dat (.v (.int .u64 (btN j)))), (10, .dat (.v (.int .u64 (sqN (hypN x y) j : Int))))]) (fun j => []) (fun j => j ≤ 64) (fun j => 64 - j) 0 [] ?_ (evs ?_) ?_
  · exact Nat.zero_le _
  · (try with_reducible (repeat' (first | apply And.intro | intro _)))
    all_goals (first | exact True.intro | omega | (first | rfl))
  · intro j hJ
    refine WA_seq (x := (fcd Tryz.f71 [1, 1, 1, 1, 1, 1, 0, 1, 0, 0, 0])) (y := (fcd Tryz.f71 [1, 1, 1, 1, 1, 1, 0, 1, 0, 0, 1])) ?_
    refine WA_seq (x := (fcd Tryz.f71 [1, 1, 1, 1, 1, 1, 0, 1, 0, 0, 0, 0])) (y := (fcd Tryz.f71 [1, 1, 1, 1, 1, 1, 0, 1, 0, 0, 0, 1])) ?_
    refine V_regionX Γ Δ [] [0, 1, 4, 5, 6, 7, 8, 9, 10, 11, 12, 43, 67, 70] (evs ?_)
    all_goals (try with_reducible (repeat' (first | apply And.intro | intro _)))
    all_goals (try (first | with_reducible refine wa_id ?_ | exact True.intro | omega | decide | exact ia94))
    refine V_cond (evs ?_)
    refine ⟨fun hc => ?_, fun hc => ?_⟩
    · refine WA_skip ?_
      refine WA_seq (x := (fcd Tryz.f71 [1, 1, 1, 1, 1, 1, 0, 1, 0, 0, 1, 0])) (y := (fcd Tryz.f71 [1, 1, 1, 1, 1, 1, 0, 1, 0, 0, 1, 1])) ?_
      refine WA_block (c := (fcd Tryz.f71 [1, 1, 1, 1, 1, 1, 0, 1, 0, 0, 1, 0, 0])) ?_
      refine WA_seq (x := (fcd Tryz.f71 [1, 1, 1, 1, 1, 1, 0, 1, 0, 0, 1, 0, 0, 0])) (y := (fcd Tryz.f71 [1, 1, 1, 1, 1, 1, 0, 1, 0, 0, 1, 0, 0, 1])) ?_
      refine V_regionX Γ Δ [] [0, 1, 4, 5, 6, 7, 8, 9, 10, 11, 12, 43, 67, 70] (evs ?_)
      have hj : j < 64 := by
        rcases Nat.lt_or_ge j 64 with h | h
        · exact h
        · exact absurd ((bt_ne hJ).2 (by omega)) hc
      have so9 := sq_or (hypN x y) hj
      have so10 := so9.2
      all_goals (try with_reducible (repeat' (first | apply And.intro | intro _)))
      all_goals (try (first | with_reducible refine wa_id ?_ | exact True.intro | omega | decide | exact ia94))
      simp only [so9.1]
      clear so9
      generalize hcc : sqN (hypN x y) j + 2 ^ (63 - j) = c at so10 ⊢
      refine WA_seq (x := (fcd Tryz.f71 [1, 1, 1, 1, 1, 1, 0, 1, 0, 0, 1, 0, 0, 1, 0])) (y := (fcd Tryz.f71 [1, 1, 1, 1, 1, 1, 0, 1, 0, 0, 1, 0, 0, 1, 1])) ?_
      refine V_regionX Γ Δ [] [0, 1, 4, 5, 6, 7, 8, 9, 10, 11, 12, 43, 67, 70] (evs ?_)
      all_goals (try with_reducible (repeat' (first | apply And.intro | intro _)))
      all_goals (try (first | with_reducible refine wa_id ?_ | exact True.intro | exact mul64_fn _ _ (by omega) (by omega) (by omega) (by omega) | omega | decide | exact ia94))
      simp only [nMul]
      refine WA_seq (x := (fcd Tryz.f71 [1, 1, 1, 1, 1, 1, 0, 1, 0, 0, 1, 0, 0, 1, 1, 0])) (y := (fcd Tryz.f71 [1, 1, 1, 1, 1, 1, 0, 1, 0, 0, 1, 0, 0, 1, 1, 1])) ?_
      refine V_regionX Γ Δ [] [0, 1, 4, 5, 6, 7, 8, 9, 10, 11, 12, 43, 67, 70] (evs ?_)
      all_goals (try with_reducible (repeat' (first | apply And.intro | intro _)))
      all_goals (try (first | with_reducible refine wa_id ?_ | exact True.intro | omega | decide | exact ia94))
      refine V_cond (evs ?_)
      refine ⟨fun hc => ?_, fun hc => ?_⟩
      · refine V_regionX Γ Δ [] [0, 1, 4, 5, 6, 7, 8, 9, 10, 11, 12, 43, 67, 70] (evs ?_)
        all_goals (try with_reducible (repeat' (first | apply And.intro | intro _)))
        all_goals (try (first | with_reducible refine wa_id ?_ | exact True.intro | omega | decide | exact ia94))
        refine V_regionX Γ Δ [] [0, 1, 4, 5, 6, 7, 8, 9, 10, 11, 12, 43, 67, 70] (evs ?_)
        all_goals (try with_reducible (repeat' (first | apply And.intro | intro _)))
        all_goals (try (first | with_reducible refine wa_id ?_ | exact True.intro | omega | decide | exact ia94))
        refine V_next [] (j + 1) (evs ?_) ?_ ?_
        all_goals (try with_reducible (repeat' (first | apply And.intro | intro _)))
        all_goals (first | exact True.intro | omega | (first | rfl | exact vI (bt_sh hj) | (have hle : c * c ≤ hypN x y := by omega); subst hcc; exact vI (sq_T hle) | (have hle : ¬ c * c ≤ hypN x y := hyF hc); subst hcc; exact vI (sq_F hle)))
      · refine WA_skip ?_
        refine V_regionX Γ Δ [] [0, 1, 4, 5, 6, 7, 8, 9, 10, 11, 12, 43, 67, 70] (evs ?_)
        all_goals (try with_reducible (repeat' (first | apply And.intro | intro _)))
        all_goals (try (first | with_reducible refine wa_id ?_ | exact True.intro | omega | decide | exact ia94))
        refine V_next [] (j + 1) (evs ?_) ?_ ?_
        all_goals (try with_reducible (repeat' (first | apply And.intro | intro _)))
        all_goals (first | exact True.intro | omega | (first | rfl | exact vI (bt_sh hj) | (have hle : c * c ≤ hypN x y := by omega); subst hcc; exact vI (sq_T hle) | (have hle : ¬ c * c ≤ hypN x y := hyF hc); subst hcc; exact vI (sq_F hle)))
    · refine V_exit (evs ?_)
      refine WA_seq (x := (fcd Tryz.f71 [1, 1, 1, 1, 1, 1, 1, 0])) (y := (fcd Tryz.f71 [1, 1, 1, 1, 1, 1, 1, 1])) ?_
      refine WA_seq (x := (fcd Tryz.f71 [1, 1, 1, 1, 1, 1, 1, 0, 0])) (y := (fcd Tryz.f71 [1, 1, 1, 1, 1, 1, 1, 0, 1])) ?_
      refine V_regionX Γ Δ [] [0, 1, 4, 5, 6, 7, 8, 9, 10, 11, 12, 43, 67, 70] (evs ?_)
      all_goals (try with_reducible (repeat' (first | apply And.intro | intro _)))
      all_goals (try (first | with_reducible refine wa_id ?_ | exact True.intro | omega | decide | exact ia94))
      refine V_cond (evs ?_)
      refine ⟨fun hc => ?_, fun hc => ?_⟩
      · refine WA_seq (x := (fcd Tryz.f71 [1, 1, 1, 1, 1, 1, 1, 0, 1, 0, 0])) (y := (fcd Tryz.f71 [1, 1, 1, 1, 1, 1, 1, 0, 1, 0, 1])) ?_
        refine V_regionX Γ Δ [] [0, 1, 4, 5, 6, 7, 8, 9, 10, 11, 12, 43, 67, 70] (evs ?_)
        all_goals (try with_reducible (repeat' (first | apply And.intro | intro _)))
        all_goals (try (first | with_reducible refine wa_id ?_ | exact True.intro | omega | decide | exact ia94))
        refine V_ret (evs ?_)
        have e64 : j = 64 := (bt_ne hJ).1 ‹btN j = 0›
        subst e64
        first | exact hy1 hc | exact hy2 hc
      · refine WA_skip ?_
        refine WA_seq (x := (fcd Tryz.f71 [1, 1, 1, 1, 1, 1, 1, 1, 0])) (y := (fcd Tryz.f71 [1, 1, 1, 1, 1, 1, 1, 1, 1])) ?_
        refine V_regionX Γ Δ [] [0, 1, 4, 5, 6, 7, 8, 9, 10, 11, 12, 43, 67, 70] (evs ?_)
        all_goals (try with_reducible (repeat' (first | apply And.intro | intro _)))
        all_goals (try (first | with_reducible refine wa_id ?_ | exact True.intro | omega | decide | exact ia94))
        refine V_ret (evs ?_)
        have e64 : j = 64 := (bt_ne hJ).1 ‹btN j = 0›
        subst e64
        first | exact hy1 hc | exact hy2 hc

end Go.S16

