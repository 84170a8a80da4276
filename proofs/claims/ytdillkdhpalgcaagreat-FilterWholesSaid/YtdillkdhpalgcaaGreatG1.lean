import Derived.Test.YtdillkdhpalgcaaGreatA1
set_option linter.unusedSimpArgs false
set_option linter.unusedVariables false
set_option linter.unusedSimpArgs false
set_option linter.unusedVariables false
namespace Go.S16
open Go.RowKit Go.Proofs Go.Eng Go.Rect
theorem rfloor_fn (a b : Int) (h1 : -9223372036854775808 ≤ a) (h2 : a ≤ 9223372036854775807) : Eng.Fn Tryz.prog 97 [.i a, .i b] (.dat (.i (floorI a b))) := by
  refine Eng.Fn.by (fn := Tryz.f97) 33 [.tmp 4] Tryz.func97 rfl Tryz.ntmps97 rfl (by simp) fun w0 G0 => ?_
  refine WA_seq (x := (fcd Tryz.f97 [0])) (y := (fcd Tryz.f97 [1])) ?_
  refine V_regionX Γ Δ [] [0, 1, 4, 5, 6, 8, 14, 29] (evs ?_)
  all_goals (try with_reducible (repeat' (first | apply And.intro | intro _)))
  all_goals (try (first | with_reducible refine wa_id ?_ | exact True.intro | omega))
  refine WA_seq (x := (fcd Tryz.f97 [1, 0])) (y := (fcd Tryz.f97 [1, 1])) ?_
  refine WA_seq (x := (fcd Tryz.f97 [1, 0, 0])) (y := (fcd Tryz.f97 [1, 0, 1])) ?_
  refine V_regionX Γ Δ [] [0, 1, 4, 5, 6, 8, 14, 29] (evs ?_)
  all_goals (try with_reducible (repeat' (first | apply And.intro | intro _)))
  all_goals (try (first | with_reducible refine wa_id ?_ | exact True.intro | omega))
  refine V_cond (evs ?_)
  refine ⟨fun hc => ?_, fun hc => ?_⟩
  · refine WA_seq (x := (fcd Tryz.f97 [1, 0, 1, 0, 0])) (y := (fcd Tryz.f97 [1, 0, 1, 0, 1])) ?_
    refine V_regionX Γ Δ [] [0, 1, 4, 5, 6, 8, 14, 29] (evs ?_)
    all_goals (try with_reducible (repeat' (first | apply And.intro | intro _)))
    all_goals (try (first | with_reducible refine wa_id ?_ | exact True.intro | omega))
    refine V_ret (evs ?_)
    first | exact fl1 hc | exact fl2 ‹_› hc | exact fl5 h1 h2 ‹_› ‹_› hc | exact fl6 h1 h2 ‹_› ‹_› hc
  · refine WA_skip ?_
    refine WA_seq (x := (fcd Tryz.f97 [1, 1, 0])) (y := (fcd Tryz.f97 [1, 1, 1])) ?_
    refine WA_seq (x := (fcd Tryz.f97 [1, 1, 0, 0])) (y := (fcd Tryz.f97 [1, 1, 0, 1])) ?_
    refine V_regionX Γ Δ [] [0, 1, 4, 5, 6, 8, 14, 29] (evs ?_)
    all_goals (try with_reducible (repeat' (first | apply And.intro | intro _)))
    all_goals (try (first | with_reducible refine wa_id ?_ | exact True.intro | omega))
    refine V_cond (evs ?_)
    refine ⟨fun hc => ?_, fun hc => ?_⟩
    · refine WA_seq (x := (fcd Tryz.f97 [1, 1, 0, 1, 0, 0])) (y := (fcd Tryz.f97 [1, 1, 0, 1, 0, 1])) ?_
      refine V_regionX Γ Δ [] [0, 1, 4, 5, 6, 8, 14, 29] (evs ?_)
      all_goals (try with_reducible (repeat' (first | apply And.intro | intro _)))
      all_goals (try (first | with_reducible refine wa_id ?_ | exact True.intro | omega))
      refine V_ret (evs ?_)
      first | exact fl1 hc | exact fl2 ‹_› hc | exact fl5 h1 h2 ‹_› ‹_› hc | exact fl6 h1 h2 ‹_› ‹_› hc
    · refine WA_skip ?_
      refine WA_seq (x := (fcd Tryz.f97 [1, 1, 1, 0])) (y := (fcd Tryz.f97 [1, 1, 1, 1])) ?_
      refine V_draw Γ [] [0, 1, 4, 5, 6, 8, 14, 29] mixed (by kernel_rfl) (evs ?_)
      all_goals (try with_reducible (repeat' (first | apply And.intro | intro _)))
      all_goals (try (first | with_reducible refine wa_id ?_ | exact True.intro | omega))
      refine WA_seq (x := (fcd Tryz.f97 [1, 1, 1, 1, 0])) (y := (fcd Tryz.f97 [1, 1, 1, 1, 1])) ?_
      refine WA_seq (x := (fcd Tryz.f97 [1, 1, 1, 1, 0, 0])) (y := (fcd Tryz.f97 [1, 1, 1, 1, 0, 1])) ?_
      refine V_regionX Γ Δ [] [0, 1, 4, 5, 6, 8, 14, 29] (evs ?_)
      all_goals (try with_reducible (repeat' (first | apply And.intro | intro _)))
      all_goals (try (first | with_reducible refine wa_id ?_ | exact True.intro | omega))
      refine V_cond (evs ?_)
      refine ⟨fun hc => ?_, fun hc => ?_⟩
      · refine WA_seq (x := (fcd Tryz.f97 [1, 1, 1, 1, 0, 1, 0, 0])) (y := (fcd Tryz.f97 [1, 1, 1, 1, 0, 1, 0, 1])) ?_
        refine V_regionX Γ Δ [] [0, 1, 4, 5, 6, 8, 14, 29] (evs ?_)
        all_goals (try with_reducible (repeat' (first | apply And.intro | intro _)))
        all_goals (try (first | with_reducible refine wa_id ?_ | exact True.intro | omega))
        refine V_ret (evs ?_)
        first | exact fl1 hc | exact fl2 ‹_› hc | exact fl5 h1 h2 ‹_› ‹_› hc | exact fl6 h1 h2 ‹_› ‹_› hc
      · refine WA_skip ?_
        refine WA_seq (x := (fcd Tryz.f97 [1, 1, 1, 1, 1, 0])) (y := (fcd Tryz.f97 [1, 1, 1, 1, 1, 1])) ?_
        refine V_regionX Γ Δ [] [0, 1, 4, 5, 6, 8, 14, 29] (evs ?_)
        all_goals (try with_reducible (repeat' (first | apply And.intro | intro _)))
        all_goals (try (first | with_reducible refine wa_id ?_ | exact True.intro | omega))
        refine V_ret (evs ?_)
        first | exact fl1 hc | exact fl2 ‹_› hc | exact fl5 h1 h2 ‹_› ‹_› hc | exact fl6 h1 h2 ‹_› ‹_› hc

theorem rabsw_fn (a : Int) (h1 : -9223372036854775808 ≤ a) (h2 : a ≤ 9223372036854775807) : Eng.Fn Tryz.prog 98 [.i a] (.dat (.v (.int .u64 (absU a)))) := by
  refine Eng.Fn.by (fn := Tryz.f98) 10 [.tmp 2] Tryz.func98 rfl Tryz.ntmps98 rfl (by simp) fun w0 G0 => ?_
  refine WA_seq (x := (fcd Tryz.f98 [0])) (y := (fcd Tryz.f98 [1])) ?_
  refine V_regionX Γ Δ [] [0, 2, 4] (evs ?_)
  all_goals (try with_reducible (repeat' (first | apply And.intro | intro _)))
  all_goals (try (first | with_reducible refine wa_id ?_ | exact True.intro | omega))
  refine WA_seq (x := (fcd Tryz.f98 [1, 0])) (y := (fcd Tryz.f98 [1, 1])) ?_
  refine WA_seq (x := (fcd Tryz.f98 [1, 0, 0])) (y := (fcd Tryz.f98 [1, 0, 1])) ?_
  refine V_regionX Γ Δ [] [0, 2, 4] (evs ?_)
  all_goals (try with_reducible (repeat' (first | apply And.intro | intro _)))
  all_goals (try (first | with_reducible refine wa_id ?_ | exact True.intro | omega))
  refine V_cond (evs ?_)
  refine ⟨fun hc => ?_, fun hc => ?_⟩
  · refine WA_seq (x := (fcd Tryz.f98 [1, 0, 1, 0, 0])) (y := (fcd Tryz.f98 [1, 0, 1, 0, 1])) ?_
    refine V_regionX Γ Δ [] [0, 2, 4] (evs ?_)
    all_goals (try with_reducible (repeat' (first | apply And.intro | intro _)))
    all_goals (try (first | with_reducible refine wa_id ?_ | exact True.intro | omega))
    refine V_ret (evs ?_)
    first | exact ab1z h1 hc | exact ab2 h2 hc
  · refine WA_skip ?_
    refine WA_seq (x := (fcd Tryz.f98 [1, 1, 0])) (y := (fcd Tryz.f98 [1, 1, 1])) ?_
    refine V_regionX Γ Δ [] [0, 2, 4] (evs ?_)
    all_goals (try with_reducible (repeat' (first | apply And.intro | intro _)))
    all_goals (try (first | with_reducible refine wa_id ?_ | exact True.intro | omega))
    refine V_ret (evs ?_)
    first | exact ab1z h1 hc | exact ab2 h2 hc

theorem rdivw_fn (a b : Int) (h1 : -2305843009213693952 ≤ a) (h2 : a ≤ 2305843009213693952) (h3 : 0 ≤ b) (h4 : b ≤ 70368744177664) : Eng.Fn Tryz.prog 83 [.i a, .i b] (.dat (.i (divI a b))) := by
  refine Eng.Fn.by (fn := Tryz.f83) 34 [.tmp 4] Tryz.func83 rfl Tryz.ntmps83 rfl (by simp) fun w0 G0 => ?_
  refine WA_seq (x := (fcd Tryz.f83 [0])) (y := (fcd Tryz.f83 [1])) ?_
  refine V_regionX Γ Δ [] [0, 1, 4, 5, 6, 8, 17, 30] (evs ?_)
  all_goals (try with_reducible (repeat' (first | apply And.intro | intro _)))
  all_goals (try (first | with_reducible refine wa_id ?_ | exact True.intro | omega))
  refine WA_seq (x := (fcd Tryz.f83 [1, 0])) (y := (fcd Tryz.f83 [1, 1])) ?_
  refine WA_seq (x := (fcd Tryz.f83 [1, 0, 0])) (y := (fcd Tryz.f83 [1, 0, 1])) ?_
  refine V_regionX Γ Δ [] [0, 1, 4, 5, 6, 8, 17, 30] (evs ?_)
  all_goals (try with_reducible (repeat' (first | apply And.intro | intro _)))
  all_goals (try (first | with_reducible refine wa_id ?_ | exact True.intro | omega))
  refine V_cond (evs ?_)
  refine ⟨fun hc => ?_, fun hc => ?_⟩
  · refine WA_seq (x := (fcd Tryz.f83 [1, 0, 1, 0, 0])) (y := (fcd Tryz.f83 [1, 0, 1, 0, 1])) ?_
    refine V_regionX Γ Δ [] [0, 1, 4, 5, 6, 8, 17, 30] (evs ?_)
    all_goals (try with_reducible (repeat' (first | apply And.intro | intro _)))
    all_goals (try (first | with_reducible refine wa_id ?_ | exact True.intro | omega))
    refine V_ret (evs ?_)
    first | exact dv0 hc | exact dv3w h3 hb h4 q hc | exact dv4w h3 hb h4 q hc | (exfalso; omega)
  · refine WA_skip ?_
    refine WA_seq (x := (fcd Tryz.f83 [1, 1, 0])) (y := (fcd Tryz.f83 [1, 1, 1])) ?_
    refine V_regionX Γ Δ [] [0, 1, 4, 5, 6, 8, 17, 30] (evs ?_)
    have hb := hc
    all_goals (try with_reducible (repeat' (first | apply And.intro | intro _)))
    all_goals (try (first | with_reducible refine wa_id ?_ | exact True.intro | exact rfloor_fn _ _ (by omega) (by omega) | omega))
    simp only [floor_pos (show 0 < b by omega)]
    have q := quW h1 h2 (show 0 < b by omega) h4
    refine WA_seq (x := (fcd Tryz.f83 [1, 1, 1, 0])) (y := (fcd Tryz.f83 [1, 1, 1, 1])) ?_
    refine WA_seq (x := (fcd Tryz.f83 [1, 1, 1, 0, 0])) (y := (fcd Tryz.f83 [1, 1, 1, 0, 1])) ?_
    refine V_regionX Γ Δ [] [0, 1, 4, 5, 6, 8, 17, 30] (evs ?_)
    all_goals (try with_reducible (repeat' (first | apply And.intro | intro _)))
    all_goals (try (first | with_reducible refine wa_id ?_ | exact True.intro | omega))
    refine V_cond (evs ?_)
    refine ⟨fun hc => ?_, fun hc => ?_⟩
    · refine WA_seq (x := (fcd Tryz.f83 [1, 1, 1, 0, 1, 0, 0])) (y := (fcd Tryz.f83 [1, 1, 1, 0, 1, 0, 1])) ?_
      refine V_regionX Γ Δ [] [0, 1, 4, 5, 6, 8, 17, 30] (evs ?_)
      all_goals (try with_reducible (repeat' (first | apply And.intro | intro _)))
      all_goals (try (first | with_reducible refine wa_id ?_ | exact True.intro | omega))
      refine V_ret (evs ?_)
      first | exact dv0 hc | exact dv3w h3 hb h4 q hc | exact dv4w h3 hb h4 q hc | (exfalso; omega)
    · refine WA_skip ?_
      refine WA_seq (x := (fcd Tryz.f83 [1, 1, 1, 1, 0])) (y := (fcd Tryz.f83 [1, 1, 1, 1, 1])) ?_
      refine V_regionX Γ Δ [] [0, 1, 4, 5, 6, 8, 17, 30] (evs ?_)
      (try simp (disch := omega) only [w64])
      all_goals (try with_reducible (repeat' (first | apply And.intro | intro _)))
      all_goals (try (first | with_reducible refine wa_id ?_ | exact True.intro | exact rabsw_fn _ (by omega) (by omega) | omega))
      refine WA_seq (x := (fcd Tryz.f83 [1, 1, 1, 1, 1, 0])) (y := (fcd Tryz.f83 [1, 1, 1, 1, 1, 1])) ?_
      refine WA_seq (x := (fcd Tryz.f83 [1, 1, 1, 1, 1, 0, 0])) (y := (fcd Tryz.f83 [1, 1, 1, 1, 1, 0, 1])) ?_
      refine V_regionX Γ Δ [] [0, 1, 4, 5, 6, 8, 17, 30] (evs ?_)
      all_goals (try with_reducible (repeat' (first | apply And.intro | intro _)))
      all_goals (try (first | with_reducible refine wa_id ?_ | exact True.intro | exact rabsw_fn _ (by omega) (by omega) | omega))
      refine V_cond (evs ?_)
      refine ⟨fun hc => ?_, fun hc => ?_⟩
      · refine WA_seq (x := (fcd Tryz.f83 [1, 1, 1, 1, 1, 0, 1, 0, 0])) (y := (fcd Tryz.f83 [1, 1, 1, 1, 1, 0, 1, 0, 1])) ?_
        refine V_regionX Γ Δ [] [0, 1, 4, 5, 6, 8, 17, 30] (evs ?_)
        all_goals (try with_reducible (repeat' (first | apply And.intro | intro _)))
        all_goals (try (first | with_reducible refine wa_id ?_ | exact True.intro | omega))
        refine V_ret (evs ?_)
        first | exact dv0 hc | exact dv3w h3 hb h4 q hc | exact dv4w h3 hb h4 q hc | (exfalso; omega)
      · refine WA_skip ?_
        refine WA_seq (x := (fcd Tryz.f83 [1, 1, 1, 1, 1, 1, 0])) (y := (fcd Tryz.f83 [1, 1, 1, 1, 1, 1, 1])) ?_
        refine V_regionX Γ Δ [] [0, 1, 4, 5, 6, 8, 17, 30] (evs ?_)
        all_goals (try with_reducible (repeat' (first | apply And.intro | intro _)))
        all_goals (try (first | with_reducible refine wa_id ?_ | exact True.intro | omega))
        refine V_ret (evs ?_)
        first | exact dv0 hc | exact dv3w h3 hb h4 q hc | exact dv4w h3 hb h4 q hc | (exfalso; omega)

set_option maxRecDepth 100000 in
theorem rprod_fn (x y : Int) (hx0 : 0 ≤ x) (hx1 : x < 18446744073709551616) (hy0 : 0 ≤ y) (hy1 : y < 18446744073709551616) : Eng.Fn Tryz.prog 100 [.v (.int .u64 x), .v (.int .u64 y)] (.tup [.dat (.v (.int .u64 (x * y / 18446744073709551616))), .dat (.v (.int .u64 (x * y % 18446744073709551616)))]) := by
  obtain ⟨X, rfl⟩ := Int.eq_ofNat_of_zero_le hx0
  obtain ⟨Y, rfl⟩ := Int.eq_ofNat_of_zero_le hy0
  have hX : X < 18446744073709551616 := by omega
  have hY : Y < 18446744073709551616 := by omega
  obtain ⟨bd, bt, bw, hhi⟩ := Lib.mul64_hi X Y hX hY
  have ba := Lib.half_mul_le (a := X / 4294967296) (b := Y / 4294967296) (by omega) (by omega)
  have bb := Lib.half_mul_le (a := X / 4294967296) (b := Y % 4294967296) (by omega) (by omega)
  have bc := Lib.half_mul_le (a := X % 4294967296) (b := Y / 4294967296) (by omega) (by omega)
  refine Eng.Fn.by (fn := Tryz.f100) 48 [.tmp 4, .tmp 5] Tryz.func100 rfl Tryz.ntmps100 rfl (by simp) fun w0 G0 => ?_
  refine WA_seq (x := (fcd Tryz.f100 [0])) (y := (fcd Tryz.f100 [1])) ?_
  refine V_regionX Γ Δ [] [0, 1, 4, 5, 6, 7, 8, 9, 10, 11, 12] (evs ?_)
  all_goals (try with_reducible (repeat' (first | apply And.intro | intro _)))
  all_goals (try (first | with_reducible refine wa_id ?_ | exact True.intro | omega | decide))
  refine WA_seq (x := (fcd Tryz.f100 [1, 0])) (y := (fcd Tryz.f100 [1, 1])) ?_
  refine V_regionX Γ Δ [] [0, 1, 4, 5, 6, 7, 8, 9, 10, 11, 12] (evs ?_)
  all_goals (try with_reducible (repeat' (first | apply And.intro | intro _)))
  all_goals (try (first | with_reducible refine wa_id ?_ | exact True.intro | omega | decide))
  (try simp (maxSteps := 10000000) (disch := omega) only [ipow32, mk32, sh32, nMul, nAdd, wU])
  refine WA_seq (x := (fcd Tryz.f100 [1, 1, 0])) (y := (fcd Tryz.f100 [1, 1, 1])) ?_
  refine V_regionX Γ Δ [] [0, 1, 4, 5, 6, 7, 8, 9, 10, 11, 12] (evs ?_)
  all_goals (try with_reducible (repeat' (first | apply And.intro | intro _)))
  all_goals (try (first | with_reducible refine wa_id ?_ | exact True.intro | omega | decide))
  (try simp (maxSteps := 10000000) (disch := omega) only [ipow32, mk32, sh32, nMul, nAdd, wU])
  refine WA_seq (x := (fcd Tryz.f100 [1, 1, 1, 0])) (y := (fcd Tryz.f100 [1, 1, 1, 1])) ?_
  refine V_regionX Γ Δ [] [0, 1, 4, 5, 6, 7, 8, 9, 10, 11, 12] (evs ?_)
  all_goals (try with_reducible (repeat' (first | apply And.intro | intro _)))
  all_goals (try (first | with_reducible refine wa_id ?_ | exact True.intro | omega | decide))
  (try simp (maxSteps := 10000000) (disch := omega) only [ipow32, mk32, sh32, nMul, nAdd, wU])
  refine WA_seq (x := (fcd Tryz.f100 [1, 1, 1, 1, 0])) (y := (fcd Tryz.f100 [1, 1, 1, 1, 1])) ?_
  refine V_regionX Γ Δ [] [0, 1, 4, 5, 6, 7, 8, 9, 10, 11, 12] (evs ?_)
  all_goals (try with_reducible (repeat' (first | apply And.intro | intro _)))
  all_goals (try (first | with_reducible refine wa_id ?_ | exact True.intro | omega | decide))
  (try simp (maxSteps := 10000000) (disch := omega) only [ipow32, mk32, sh32, nMul, nAdd, wU])
  refine WA_seq (x := (fcd Tryz.f100 [1, 1, 1, 1, 1, 0])) (y := (fcd Tryz.f100 [1, 1, 1, 1, 1, 1])) ?_
  refine V_regionX Γ Δ [] [0, 1, 4, 5, 6, 7, 8, 9, 10, 11, 12] (evs ?_)
  all_goals (try with_reducible (repeat' (first | apply And.intro | intro _)))
  all_goals (try (first | with_reducible refine wa_id ?_ | exact True.intro | omega | decide))
  (try simp (maxSteps := 10000000) (disch := omega) only [ipow32, mk32, sh32, nMul, nAdd, wU])
  refine V_ret (evs ?_)
  first | (refine ⟨vI ?_, vI ?_⟩ <;> first | (rw [← hhi]; done) | (rw [prod_e hhi]; done) | (rw [nMul, wUm]; omega) | (rw [wUm]; omega) | omega)

theorem rsgn_fn (x y : Int) (h1 : 0 ≤ y) (h2 : y < 18446744073709551616) (h3 : x = 0) : Eng.Fn Tryz.prog 101 [.v (.int .u64 x), .v (.int .u64 y), .b false] (.dat (.i (sgnI x y false))) := by
  refine Eng.Fn.by (fn := Tryz.f101) 25 [.tmp 6] Tryz.func101 rfl Tryz.ntmps101 rfl (by simp) fun w0 G0 => ?_
  refine WA_seq (x := (fcd Tryz.f101 [0])) (y := (fcd Tryz.f101 [1])) ?_
  refine V_regionX Γ Δ [] [0, 1, 2, 6, 7, 13, 22] (evs ?_)
  all_goals (try with_reducible (repeat' (first | apply And.intro | intro _)))
  all_goals (try (first | with_reducible refine wa_id ?_ | exact True.intro | omega))
  refine WA_seq (x := (fcd Tryz.f101 [1, 0])) (y := (fcd Tryz.f101 [1, 1])) ?_
  refine WA_seq (x := (fcd Tryz.f101 [1, 0, 0])) (y := (fcd Tryz.f101 [1, 0, 1])) ?_
  refine V_regionX Γ Δ [] [0, 1, 2, 6, 7, 13, 22] (evs ?_)
  all_goals (try with_reducible (repeat' (first | apply And.intro | intro _)))
  all_goals (try (first | with_reducible refine wa_id ?_ | exact True.intro | omega))
  refine V_cond (evs ?_)
  refine ⟨fun hc => hc.elim, ?_⟩
  refine WA_skip ?_
  refine WA_seq (x := (fcd Tryz.f101 [1, 1, 0])) (y := (fcd Tryz.f101 [1, 1, 1])) ?_
  refine WA_seq (x := (fcd Tryz.f101 [1, 1, 0, 0])) (y := (fcd Tryz.f101 [1, 1, 0, 1])) ?_
  refine V_regionX Γ Δ [] [0, 1, 2, 6, 7, 13, 22] (evs ?_)
  all_goals (try with_reducible (repeat' (first | apply And.intro | intro _)))
  all_goals (try (first | with_reducible refine wa_id ?_ | exact True.intro | omega))
  refine V_cond (evs ?_)
  refine ⟨fun hc => ?_, fun hc => ?_⟩
  · refine WA_seq (x := (fcd Tryz.f101 [1, 1, 0, 1, 0, 0])) (y := (fcd Tryz.f101 [1, 1, 0, 1, 0, 1])) ?_
    refine V_regionX Γ Δ [] [0, 1, 2, 6, 7, 13, 22] (evs ?_)
    all_goals (try with_reducible (repeat' (first | apply And.intro | intro _)))
    all_goals (try (first | with_reducible refine wa_id ?_ | exact True.intro | omega))
    refine V_ret (evs ?_)
    first | exact sg1 hc | exact sg2 h1 hc
  · refine WA_skip ?_
    refine WA_seq (x := (fcd Tryz.f101 [1, 1, 1, 0])) (y := (fcd Tryz.f101 [1, 1, 1, 1])) ?_
    refine V_regionX Γ Δ [] [0, 1, 2, 6, 7, 13, 22] (evs ?_)
    all_goals (try with_reducible (repeat' (first | apply And.intro | intro _)))
    all_goals (try (first | with_reducible refine wa_id ?_ | exact True.intro | omega))
    refine V_ret (evs ?_)
    first | exact sg1 hc | exact sg2 h1 hc

end Go.S16

set_option linter.unusedSimpArgs false
set_option linter.unusedVariables false
namespace Go.S16
open Go.RowKit Go.Proofs Go.Eng Go.Rect
set_option maxHeartbeats 2000000 in
set_option maxRecDepth 100000 in
theorem rhypot_fn (x y : Int) (h1 : -9223372036854775808 ≤ x) (h2 : x ≤ 9223372036854775807) (h3 : -9223372036854775808 ≤ y) (h4 : y ≤ 9223372036854775807) : Eng.Fn Tryz.prog 85 [.i x, .i y] (.dat (.i (hypI x y))) := by
  have ax := absU_2 x
  have ay := absU_2 y
  have hb := hyp_bd x y h1 (by omega) h3 (by omega)
  have el := hy_lo2 (x := x) (y := y)
  refine Eng.Fn.by (fn := Tryz.f85) 74 [.tmp 4] Tryz.func85 rfl Tryz.ntmps85 rfl (by simp) fun w0 G0 => ?_
  refine WA_seq (x := (fcd Tryz.f85 [0])) (y := (fcd Tryz.f85 [1])) ?_
  refine V_regionX Γ Δ [] [0, 1, 4, 5, 6, 7, 8, 9, 10, 11, 12, 13, 14, 39, 43, 68] (evs ?_)
  all_goals (try with_reducible (repeat' (first | apply And.intro | intro _)))
  all_goals (try (first | with_reducible refine wa_id ?_ | exact True.intro | omega | decide))
  refine WA_seq (x := (fcd Tryz.f85 [1, 0])) (y := (fcd Tryz.f85 [1, 1])) ?_
  refine V_regionX Γ Δ [] [0, 1, 4, 5, 6, 7, 8, 9, 10, 11, 12, 13, 14, 39, 43, 68] (evs ?_)
  all_goals (try with_reducible (repeat' (first | apply And.intro | intro _)))
  all_goals (try (first | with_reducible refine wa_id ?_ | exact True.intro | exact rabsw_fn _ (by omega) (by omega) | exact rprod_fn _ _ (by omega) (by omega) (by omega) (by omega) | omega | decide))
  refine WA_seq (x := (fcd Tryz.f85 [1, 1, 0])) (y := (fcd Tryz.f85 [1, 1, 1])) ?_
  refine V_regionX Γ Δ [] [0, 1, 4, 5, 6, 7, 8, 9, 10, 11, 12, 13, 14, 39, 43, 68] (evs ?_)
  all_goals (try with_reducible (repeat' (first | apply And.intro | intro _)))
  all_goals (try (first | with_reducible refine wa_id ?_ | exact True.intro | exact rabsw_fn _ (by omega) (by omega) | exact rprod_fn _ _ (by omega) (by omega) (by omega) (by omega) | omega | decide))
  simp only [ax, ay, nMul]
  refine WA_seq (x := (fcd Tryz.f85 [1, 1, 1, 0])) (y := (fcd Tryz.f85 [1, 1, 1, 1])) ?_
  refine V_regionX Γ Δ [] [0, 1, 4, 5, 6, 7, 8, 9, 10, 11, 12, 13, 14, 39, 43, 68] (evs ?_)
  all_goals (try with_reducible (repeat' (first | apply And.intro | intro _)))
  all_goals (try (first | with_reducible refine wa_id ?_ | exact True.intro | omega | decide))
  simp only [el]
  refine WA_seq (x := (fcd Tryz.f85 [1, 1, 1, 1, 0])) (y := (fcd Tryz.f85 [1, 1, 1, 1, 1])) ?_
  refine V_regionX Γ Δ [] [0, 1, 4, 5, 6, 7, 8, 9, 10, 11, 12, 13, 14, 39, 43, 68] (evs ?_)
  all_goals (try with_reducible (repeat' (first | apply And.intro | intro _)))
  all_goals (try (first | with_reducible refine wa_id ?_ | exact True.intro | omega | decide))
  refine V_cut (x := (fcd Tryz.f85 [1, 1, 1, 1, 1, 0])) (y := (fcd Tryz.f85 [1, 1, 1, 1, 1, 1])) (α := Unit) [10, 39] [] (fun _ => [(10, .dat (.v (.int .u64 ((hypN x y : Int) / 18446744073709551616))))]) (fun _ => []) (fun _ => True) ?_ ?_
  · refine WA_seq (x := (fcd Tryz.f85 [1, 1, 1, 1, 1, 0, 0])) (y := (fcd Tryz.f85 [1, 1, 1, 1, 1, 0, 1])) ?_
    refine V_regionX Γ Δ [] [0, 1, 4, 5, 6, 7, 8, 9, 10, 11, 12, 13, 14, 39, 43, 68] (evs ?_)
    all_goals (try with_reducible (repeat' (first | apply And.intro | intro _)))
    all_goals (try (first | with_reducible refine wa_id ?_ | exact True.intro | omega | decide))
    refine V_cond (evs ?_)
    refine ⟨fun hc => ?_, fun hc => ?_⟩
    · refine V_regionX Γ Δ [] [0, 1, 4, 5, 6, 7, 8, 9, 10, 11, 12, 13, 14, 39, 43, 68] (evs ?_)
      all_goals (try with_reducible (repeat' (first | apply And.intro | intro _)))
      all_goals (try (first | with_reducible refine wa_id ?_ | exact True.intro | omega | decide))
      refine V_jn [] () (evs ?_) ?_
      all_goals (try with_reducible (repeat' (first | apply And.intro | intro _)))
      all_goals (first | exact True.intro | omega | (first | exact vI (hy_h1 hb.1 hb.2 hc) | exact vI (hy_h0 hb.1 hb.2 hc)))
    · refine WA_skip ?_
      refine V_jn [] () (evs ?_) ?_
      all_goals (try with_reducible (repeat' (first | apply And.intro | intro _)))
      all_goals (first | exact True.intro | omega | (first | exact vI (hy_h1 hb.1 hb.2 hc) | exact vI (hy_h0 hb.1 hb.2 hc)))
  · intro _ _
    refine WA_seq (x := (fcd Tryz.f85 [1, 1, 1, 1, 1, 1, 0])) (y := (fcd Tryz.f85 [1, 1, 1, 1, 1, 1, 1])) ?_
    refine V_regionX Γ Δ [] [0, 1, 4, 5, 6, 7, 8, 9, 10, 11, 12, 13, 14, 39, 43, 68] (evs ?_)
    all_goals (try with_reducible (repeat' (first | apply And.intro | intro _)))
    all_goals (try (first | with_reducible refine wa_id ?_ | exact True.intro | omega | decide))
    refine WA_seq (x := (fcd Tryz.f85 [1, 1, 1, 1, 1, 1, 1, 0])) (y := (fcd Tryz.f85 [1, 1, 1, 1, 1, 1, 1, 1])) ?_
    refine WA_seq (x := (fcd Tryz.f85 [1, 1, 1, 1, 1, 1, 1, 0, 0])) (y := (fcd Tryz.f85 [1, 1, 1, 1, 1, 1, 1, 0, 1])) ?_
    refine V_regionX Γ Δ [] [0, 1, 4, 5, 6, 7, 8, 9, 10, 11, 12, 13, 14, 39, 43, 68] (evs ?_)
    all_goals (try with_reducible (repeat' (first | apply And.intro | intro _)))
    all_goals (try (first | with_reducible refine wa_id ?_ | exact True.intro | omega | decide))
    refine WA_block (c := (fcd Tryz.f85 [1, 1, 1, 1, 1, 1, 1, 0, 1, 0])) ?_
    refine V_loop (c := (fcd Tryz.f85 [1, 1, 1, 1, 1, 1, 1, 0, 1, 0, 0])) (α := Nat) [11, 12, 13, 14, 43, 68] [15300, 15301, 15302, 15303] (fun j => [(12, .dat (.v (.int .u64 (btN j)))), (11, .dat (.v (.int .u64 (sqN (hypN x y) j : Int))))]) (fun j => []) (fun j => j ≤ 64) (fun j => 64 - j) 0 [] ?_ (evs ?_) ?_
    · exact Nat.zero_le _
    · (try with_reducible (repeat' (first | apply And.intro | intro _)))
      all_goals (first | exact True.intro | omega | (first | rfl))
    · intro j hJ
      refine WA_seq (x := (fcd Tryz.f85 [1, 1, 1, 1, 1, 1, 1, 0, 1, 0, 0, 0])) (y := (fcd Tryz.f85 [1, 1, 1, 1, 1, 1, 1, 0, 1, 0, 0, 1])) ?_
      refine WA_seq (x := (fcd Tryz.f85 [1, 1, 1, 1, 1, 1, 1, 0, 1, 0, 0, 0, 0])) (y := (fcd Tryz.f85 [1, 1, 1, 1, 1, 1, 1, 0, 1, 0, 0, 0, 1])) ?_
      refine V_regionX Γ Δ [] [0, 1, 4, 5, 6, 7, 8, 9, 10, 11, 12, 13, 14, 39, 43, 68] (evs ?_)
      all_goals (try with_reducible (repeat' (first | apply And.intro | intro _)))
      all_goals (try (first | with_reducible refine wa_id ?_ | exact True.intro | omega | decide))
      refine V_cond (evs ?_)
      refine ⟨fun hc => ?_, fun hc => ?_⟩
      · refine WA_skip ?_
        refine WA_seq (x := (fcd Tryz.f85 [1, 1, 1, 1, 1, 1, 1, 0, 1, 0, 0, 1, 0])) (y := (fcd Tryz.f85 [1, 1, 1, 1, 1, 1, 1, 0, 1, 0, 0, 1, 1])) ?_
        refine WA_block (c := (fcd Tryz.f85 [1, 1, 1, 1, 1, 1, 1, 0, 1, 0, 0, 1, 0, 0])) ?_
        refine WA_seq (x := (fcd Tryz.f85 [1, 1, 1, 1, 1, 1, 1, 0, 1, 0, 0, 1, 0, 0, 0])) (y := (fcd Tryz.f85 [1, 1, 1, 1, 1, 1, 1, 0, 1, 0, 0, 1, 0, 0, 1])) ?_
        refine V_regionX Γ Δ [] [0, 1, 4, 5, 6, 7, 8, 9, 10, 11, 12, 13, 14, 39, 43, 68] (evs ?_)
        have hj : j < 64 := bt_pos hJ hc
        have so9 := sq_or (hypN x y) hj
        simp only [so9.1]
        have so10 := so9.2
        clear so9
        generalize hcc : sqN (hypN x y) j + 2 ^ (63 - j) = c at so10 ⊢
        all_goals (try with_reducible (repeat' (first | apply And.intro | intro _)))
        all_goals (try (first | with_reducible refine wa_id ?_ | exact True.intro | exact rprod_fn _ _ (by omega) (by omega) (by omega) (by omega) | omega | decide))
        simp only [nMul]
        refine WA_seq (x := (fcd Tryz.f85 [1, 1, 1, 1, 1, 1, 1, 0, 1, 0, 0, 1, 0, 0, 1, 0])) (y := (fcd Tryz.f85 [1, 1, 1, 1, 1, 1, 1, 0, 1, 0, 0, 1, 0, 0, 1, 1])) ?_
        refine V_regionX Γ Δ [] [0, 1, 4, 5, 6, 7, 8, 9, 10, 11, 12, 13, 14, 39, 43, 68] (evs ?_)
        all_goals (try with_reducible (repeat' (first | apply And.intro | intro _)))
        all_goals (try (first | with_reducible refine wa_id ?_ | exact True.intro | omega | decide))
        refine V_cond (evs ?_)
        refine ⟨fun hc => ?_, fun hc => ?_⟩
        · refine V_regionX Γ Δ [] [0, 1, 4, 5, 6, 7, 8, 9, 10, 11, 12, 13, 14, 39, 43, 68] (evs ?_)
          simp only [(sq_or (hypN x y) hj).1]
          all_goals (try with_reducible (repeat' (first | apply And.intro | intro _)))
          all_goals (try (first | with_reducible refine wa_id ?_ | exact True.intro | omega | decide))
          refine V_regionX Γ Δ [] [0, 1, 4, 5, 6, 7, 8, 9, 10, 11, 12, 13, 14, 39, 43, 68] (evs ?_)
          all_goals (try with_reducible (repeat' (first | apply And.intro | intro _)))
          all_goals (try (first | with_reducible refine wa_id ?_ | exact True.intro | omega | decide))
          refine V_next [] (j + 1) (evs ?_) ?_ ?_
          all_goals (try with_reducible (repeat' (first | apply And.intro | intro _)))
          all_goals (first | exact True.intro | omega | (first | rfl | exact vI (bt_sh hj) | (have hle : c * c ≤ hypN x y := by omega); subst hcc; exact vI (sq_T hle) | (have hle : ¬ c * c ≤ hypN x y := hyF hc); subst hcc; exact vI (sq_F hle)))
        · refine WA_skip ?_
          refine V_regionX Γ Δ [] [0, 1, 4, 5, 6, 7, 8, 9, 10, 11, 12, 13, 14, 39, 43, 68] (evs ?_)
          all_goals (try with_reducible (repeat' (first | apply And.intro | intro _)))
          all_goals (try (first | with_reducible refine wa_id ?_ | exact True.intro | omega | decide))
          refine V_next [] (j + 1) (evs ?_) ?_ ?_
          all_goals (try with_reducible (repeat' (first | apply And.intro | intro _)))
          all_goals (first | exact True.intro | omega | (first | rfl | exact vI (bt_sh hj) | (have hle : c * c ≤ hypN x y := by omega); subst hcc; exact vI (sq_T hle) | (have hle : ¬ c * c ≤ hypN x y := hyF hc); subst hcc; exact vI (sq_F hle)))
      · refine V_exit (evs ?_)
        refine WA_seq (x := (fcd Tryz.f85 [1, 1, 1, 1, 1, 1, 1, 1, 0])) (y := (fcd Tryz.f85 [1, 1, 1, 1, 1, 1, 1, 1, 1])) ?_
        refine V_regionX Γ Δ [] [0, 1, 4, 5, 6, 7, 8, 9, 10, 11, 12, 13, 14, 39, 43, 68] (evs ?_)
        have e64 : j = 64 := bt_npos hJ hc
        subst e64
        have sl := sq_lt (hypN x y) (Nat.le_refl 64)
        all_goals (try with_reducible (repeat' (first | apply And.intro | intro _)))
        all_goals (try (first | with_reducible refine wa_id ?_ | exact True.intro | exact rsgn_fn _ _ (by omega) (by omega) rfl | omega | decide))
        refine V_ret (evs ?_)
        first | exact sg3 | rfl

end Go.S16

