import Derived.Test.YtdillkdhpalgcaaF16
set_option linter.unusedSimpArgs false
set_option linter.unusedVariables false
set_option linter.unusedSimpArgs false
set_option linter.unusedVariables false
namespace Go.S16
open Go.RowKit Go.Proofs Go.Eng Go.Rect
set_option maxRecDepth 100000 in
/-- math/bits.Mul64 -/
theorem mul64_fn (x y : Int) (hx0 : 0 ≤ x) (hx1 : x < 18446744073709551616) (hy0 : 0 ≤ y) (hy1 : y < 18446744073709551616) : Eng.Fn Try.prog 79 [.v (.int .u64 x), .v (.int .u64 y)] (.tup [.dat (.v (.int .u64 (x * y / 18446744073709551616))), .dat (.v (.int .u64 (x * y % 18446744073709551616)))]) := by
  obtain ⟨X, rfl⟩ := Int.eq_ofNat_of_zero_le hx0
  obtain ⟨Y, rfl⟩ := Int.eq_ofNat_of_zero_le hy0
  have hX : X < 18446744073709551616 := by omega
  have hY : Y < 18446744073709551616 := by omega
  obtain ⟨bd, bt, bw, hhi⟩ := Lib.mul64_hi X Y hX hY
  have ba := Lib.half_mul_le (a := X / 4294967296) (b := Y / 4294967296) (by omega) (by omega)
  have bb := Lib.half_mul_le (a := X / 4294967296) (b := Y % 4294967296) (by omega) (by omega)
  have bc := Lib.half_mul_le (a := X % 4294967296) (b := Y / 4294967296) (by omega) (by omega)
  refine Eng.Fn.by (fn := Try.f79) 51 [.tmp 4, .tmp 5] Try.func79 rfl Try.ntmps79 rfl (by simp) fun w0 G0 => ?_
  refine WA_seq (x := (fcd Try.f79 [0])) (y := (fcd Try.f79 [1])) ?_
  refine V_regionX Γ Δ [] [0, 1, 4, 5, 6, 7, 8, 9, 10, 11, 12, 13] (evs ?_)
  all_goals (try with_reducible (repeat' (first | apply And.intro | intro _)))
  all_goals (try (first | with_reducible refine wa_id ?_ | exact True.intro | omega | decide))
  refine WA_seq (x := (fcd Try.f79 [1, 0])) (y := (fcd Try.f79 [1, 1])) ?_
  refine V_regionX Γ Δ [] [0, 1, 4, 5, 6, 7, 8, 9, 10, 11, 12, 13] (evs ?_)
  all_goals (try with_reducible (repeat' (first | apply And.intro | intro _)))
  all_goals (try (first | with_reducible refine wa_id ?_ | exact True.intro | omega | decide))
  (try simp (maxSteps := 10000000) (disch := omega) only [ipow32, mk32, sh32, nMul, nAdd, wU])
  refine WA_seq (x := (fcd Try.f79 [1, 1, 0])) (y := (fcd Try.f79 [1, 1, 1])) ?_
  refine V_regionX Γ Δ [] [0, 1, 4, 5, 6, 7, 8, 9, 10, 11, 12, 13] (evs ?_)
  all_goals (try with_reducible (repeat' (first | apply And.intro | intro _)))
  all_goals (try (first | with_reducible refine wa_id ?_ | exact True.intro | omega | decide))
  (try simp (maxSteps := 10000000) (disch := omega) only [ipow32, mk32, sh32, nMul, nAdd, wU])
  refine WA_seq (x := (fcd Try.f79 [1, 1, 1, 0])) (y := (fcd Try.f79 [1, 1, 1, 1])) ?_
  refine V_regionX Γ Δ [] [0, 1, 4, 5, 6, 7, 8, 9, 10, 11, 12, 13] (evs ?_)
  all_goals (try with_reducible (repeat' (first | apply And.intro | intro _)))
  all_goals (try (first | with_reducible refine wa_id ?_ | exact True.intro | omega | decide))
  (try simp (maxSteps := 10000000) (disch := omega) only [ipow32, mk32, sh32, nMul, nAdd, wU])
  refine WA_seq (x := (fcd Try.f79 [1, 1, 1, 1, 0])) (y := (fcd Try.f79 [1, 1, 1, 1, 1])) ?_
  refine V_regionX Γ Δ [] [0, 1, 4, 5, 6, 7, 8, 9, 10, 11, 12, 13] (evs ?_)
  all_goals (try with_reducible (repeat' (first | apply And.intro | intro _)))
  all_goals (try (first | with_reducible refine wa_id ?_ | exact True.intro | omega | decide))
  (try simp (maxSteps := 10000000) (disch := omega) only [ipow32, mk32, sh32, nMul, nAdd, wU])
  refine WA_seq (x := (fcd Try.f79 [1, 1, 1, 1, 1, 0])) (y := (fcd Try.f79 [1, 1, 1, 1, 1, 1])) ?_
  refine V_regionX Γ Δ [] [0, 1, 4, 5, 6, 7, 8, 9, 10, 11, 12, 13] (evs ?_)
  all_goals (try with_reducible (repeat' (first | apply And.intro | intro _)))
  all_goals (try (first | with_reducible refine wa_id ?_ | exact True.intro | omega | decide))
  (try simp (maxSteps := 10000000) (disch := omega) only [ipow32, mk32, sh32, nMul, nAdd, wU])
  refine WA_seq (x := (fcd Try.f79 [1, 1, 1, 1, 1, 1, 0])) (y := (fcd Try.f79 [1, 1, 1, 1, 1, 1, 1])) ?_
  refine V_regionX Γ Δ [] [0, 1, 4, 5, 6, 7, 8, 9, 10, 11, 12, 13] (evs ?_)
  all_goals (try with_reducible (repeat' (first | apply And.intro | intro _)))
  all_goals (try (first | with_reducible refine wa_id ?_ | exact True.intro | omega | decide))
  (try simp (maxSteps := 10000000) (disch := omega) only [ipow32, mk32, sh32, nMul, nAdd, wU])
  refine WA_seq (x := (fcd Try.f79 [1, 1, 1, 1, 1, 1, 1, 0])) (y := (fcd Try.f79 [1, 1, 1, 1, 1, 1, 1, 1])) ?_
  refine V_regionX Γ Δ [] [0, 1, 4, 5, 6, 7, 8, 9, 10, 11, 12, 13] (evs ?_)
  all_goals (try with_reducible (repeat' (first | apply And.intro | intro _)))
  all_goals (try (first | with_reducible refine wa_id ?_ | exact True.intro | omega | decide))
  (try simp (maxSteps := 10000000) (disch := omega) only [ipow32, mk32, sh32, nMul, nAdd, wU])
  refine WA_seq (x := (fcd Try.f79 [1, 1, 1, 1, 1, 1, 1, 1, 0])) (y := (fcd Try.f79 [1, 1, 1, 1, 1, 1, 1, 1, 1])) ?_
  refine V_regionX Γ Δ [] [0, 1, 4, 5, 6, 7, 8, 9, 10, 11, 12, 13] (evs ?_)
  all_goals (try with_reducible (repeat' (first | apply And.intro | intro _)))
  all_goals (try (first | with_reducible refine wa_id ?_ | exact True.intro | omega | decide))
  (try simp (maxSteps := 10000000) (disch := omega) only [ipow32, mk32, sh32, nMul, nAdd, wU])
  refine WA_seq (x := (fcd Try.f79 [1, 1, 1, 1, 1, 1, 1, 1, 1, 0])) (y := (fcd Try.f79 [1, 1, 1, 1, 1, 1, 1, 1, 1, 1])) ?_
  refine V_regionX Γ Δ [] [0, 1, 4, 5, 6, 7, 8, 9, 10, 11, 12, 13] (evs ?_)
  all_goals (try with_reducible (repeat' (first | apply And.intro | intro _)))
  all_goals (try (first | with_reducible refine wa_id ?_ | exact True.intro | omega | decide))
  (try simp (maxSteps := 10000000) (disch := omega) only [ipow32, mk32, sh32, nMul, nAdd, wU])
  refine WA_seq (x := (fcd Try.f79 [1, 1, 1, 1, 1, 1, 1, 1, 1, 1, 0])) (y := (fcd Try.f79 [1, 1, 1, 1, 1, 1, 1, 1, 1, 1, 1])) ?_
  refine V_regionX Γ Δ [] [0, 1, 4, 5, 6, 7, 8, 9, 10, 11, 12, 13] (evs ?_)
  all_goals (try with_reducible (repeat' (first | apply And.intro | intro _)))
  all_goals (try (first | with_reducible refine wa_id ?_ | exact True.intro | omega | decide))
  (try simp (maxSteps := 10000000) (disch := omega) only [ipow32, mk32, sh32, nMul, nAdd, wU])
  refine WA_seq (x := (fcd Try.f79 [1, 1, 1, 1, 1, 1, 1, 1, 1, 1, 1, 0])) (y := (fcd Try.f79 [1, 1, 1, 1, 1, 1, 1, 1, 1, 1, 1, 1])) ?_
  refine V_regionX Γ Δ [] [0, 1, 4, 5, 6, 7, 8, 9, 10, 11, 12, 13] (evs ?_)
  all_goals (try with_reducible (repeat' (first | apply And.intro | intro _)))
  all_goals (try (first | with_reducible refine wa_id ?_ | exact True.intro | omega | decide))
  refine V_ret (evs ?_)
  refine ⟨vI ?_, vI ?_⟩
  · rw [hhi]; omega
  · rw [nMul, wUm]; omega

/-- imageeditor/num.magnitude -/
theorem mag_fn (a : Int) (h1 : -9223372036854775808 ≤ a) (h2 : a ≤ 9223372036854775807) : Eng.Fn Try.prog 80 [.i a] (.dat (.v (.int .u64 (absU a)))) := by
  refine Eng.Fn.by (fn := Try.f80) 10 [.tmp 2] Try.func80 rfl Try.ntmps80 rfl (by simp) fun w0 G0 => ?_
  refine WA_seq (x := (fcd Try.f80 [0])) (y := (fcd Try.f80 [1])) ?_
  refine V_regionX Γ Δ [] [0, 2, 4] (evs ?_)
  all_goals (try with_reducible (repeat' (first | apply And.intro | intro _)))
  all_goals (try (first | with_reducible refine wa_id ?_ | exact True.intro | omega))
  refine WA_seq (x := (fcd Try.f80 [1, 0])) (y := (fcd Try.f80 [1, 1])) ?_
  refine WA_seq (x := (fcd Try.f80 [1, 0, 0])) (y := (fcd Try.f80 [1, 0, 1])) ?_
  refine V_regionX Γ Δ [] [0, 2, 4] (evs ?_)
  all_goals (try with_reducible (repeat' (first | apply And.intro | intro _)))
  all_goals (try (first | with_reducible refine wa_id ?_ | exact True.intro | omega))
  refine V_cond (evs ?_)
  refine ⟨fun hc => ?_, fun hc => ?_⟩
  · refine WA_seq (x := (fcd Try.f80 [1, 0, 1, 0, 0])) (y := (fcd Try.f80 [1, 0, 1, 0, 1])) ?_
    refine V_regionX Γ Δ [] [0, 2, 4] (evs ?_)
    all_goals (try with_reducible (repeat' (first | apply And.intro | intro _)))
    all_goals (try (first | with_reducible refine wa_id ?_ | exact True.intro | omega))
    refine V_ret (evs ?_)
    first | exact ab1z h1 hc | exact ab2 h2 hc
  · refine WA_skip ?_
    refine WA_seq (x := (fcd Try.f80 [1, 1, 0])) (y := (fcd Try.f80 [1, 1, 1])) ?_
    refine V_regionX Γ Δ [] [0, 2, 4] (evs ?_)
    all_goals (try with_reducible (repeat' (first | apply And.intro | intro _)))
    all_goals (try (first | with_reducible refine wa_id ?_ | exact True.intro | omega))
    refine V_ret (evs ?_)
    first | exact ab1z h1 hc | exact ab2 h2 hc

end Go.S16

