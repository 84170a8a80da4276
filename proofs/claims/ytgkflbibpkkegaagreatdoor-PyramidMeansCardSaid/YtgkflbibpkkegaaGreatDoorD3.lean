import Derived.Test.YtgkflbibpkkegaaGreatDoorD2
import Derived.Test.YtgkflbibpkkegaaGreatDoorB9
import Derived.Test.YtgkflbibpkkegaaGreatDoorB2
set_option linter.unusedSimpArgs false
set_option linter.unusedVariables false
set_option linter.unusedSimpArgs false
set_option linter.unusedVariables false
namespace Go.S35
open Go.RowKit Go.Proofs Go.Eng Go.Rect
set_option maxHeartbeats 4000000 in
set_option maxRecDepth 100000 in
theorem tile0_fn  : Eng.Fn Tryz.prog 34 [.agg [.i 20, .i 20, .i 0, .v (.slice none 0 0), .i 1, .i 0, .i 0, .v (.slice none 0 0), .v (.slice none 0 0), .v (.slice none 0 0)], .i 1, .i 0, .i 0] (.tup [.agg [.dat (.i (tleI 0).w), .dat (.i (tleI 0).h), .dat (.sl 4 ((tleI 0).p.map pxC))], .dat (.i (tleE 0))]) := by
  refine Eng.Fn.by (fn := Tryz.f34) 95 [.cell 8 31, .tmp 9] Tryz.func34 rfl Tryz.ntmps34 rfl (by simp) fun w0 G0 => ?_
  refine WA_seq (x := (fcd Tryz.f34 [0])) (y := (fcd Tryz.f34 [1])) ?_
  refine V_regionX Γ Δ [83] [0, 1, 2, 3, 4, 8, 9, 10, 11, 12, 13, 14, 15, 16, 17, 21, 29, 55, 87] (evs ?_)
  all_goals (try with_reducible (repeat' (first | apply And.intro | intro _)))
  all_goals (try (first | with_reducible refine wa_id ?_ | exact True.intro | omega | exact meet_fn ⟨_, _, _, _⟩ ⟨0, 0, 10, 10⟩ | exact oftile_fn ⟨0, 0⟩ | (have h := pneeds_fn 20 20 1 ⟨0, 0, 10, 10⟩; simp only [tle_n.1] at h; exact h) | exact ptiles_fn 20 20 1 | exact psize_fn 20 20 1 | exact pneeds_fn 20 20 1 ⟨0, 0, 10, 10⟩ | exact eregion_fn | exact preduce_fn (bkI ⟨0, 0, 20, 20⟩) 1))
  refine WA_seq (x := (fcd Tryz.f34 [1, 0])) (y := (fcd Tryz.f34 [1, 1])) ?_
  refine WA_seq (x := (fcd Tryz.f34 [1, 0, 0])) (y := (fcd Tryz.f34 [1, 0, 1])) ?_
  refine V_regionX Γ Δ [83] [0, 1, 2, 3, 4, 8, 9, 10, 11, 12, 13, 14, 15, 16, 17, 21, 29, 55, 87] (evs ?_)
  all_goals (try with_reducible (repeat' (first | apply And.intro | intro _)))
  all_goals (try (first | with_reducible refine wa_id ?_ | exact True.intro | exact dcheck_fn | omega | exact meet_fn ⟨_, _, _, _⟩ ⟨0, 0, 10, 10⟩ | exact oftile_fn ⟨0, 0⟩ | (have h := pneeds_fn 20 20 1 ⟨0, 0, 10, 10⟩; simp only [tle_n.1] at h; exact h) | exact ptiles_fn 20 20 1 | exact psize_fn 20 20 1 | exact pneeds_fn 20 20 1 ⟨0, 0, 10, 10⟩ | exact eregion_fn | exact preduce_fn (bkI ⟨0, 0, 20, 20⟩) 1))
  refine WA_seq (x := (fcd Tryz.f34 [1, 0, 1, 0])) (y := (fcd Tryz.f34 [1, 0, 1, 1])) ?_
  refine V_regionX Γ Δ [83] [0, 1, 2, 3, 4, 8, 9, 10, 11, 12, 13, 14, 15, 16, 17, 21, 29, 55, 87] (evs ?_)
  all_goals (try with_reducible (repeat' (first | apply And.intro | intro _)))
  all_goals (try (first | with_reducible refine wa_id ?_ | exact True.intro | omega | exact meet_fn ⟨_, _, _, _⟩ ⟨0, 0, 10, 10⟩ | exact oftile_fn ⟨0, 0⟩ | (have h := pneeds_fn 20 20 1 ⟨0, 0, 10, 10⟩; simp only [tle_n.1] at h; exact h) | exact ptiles_fn 20 20 1 | exact psize_fn 20 20 1 | exact pneeds_fn 20 20 1 ⟨0, 0, 10, 10⟩ | exact eregion_fn | exact preduce_fn (bkI ⟨0, 0, 20, 20⟩) 1))
  refine V_cond (evs ?_)
  first | refine ⟨fun hc => hc.elim, ?_⟩ | refine ⟨fun hc => absurd hc (by omega), fun hc => ?_⟩
  refine WA_skip ?_
  refine WA_seq (x := (fcd Tryz.f34 [1, 1, 0])) (y := (fcd Tryz.f34 [1, 1, 1])) ?_
  refine WA_seq (x := (fcd Tryz.f34 [1, 1, 0, 0])) (y := (fcd Tryz.f34 [1, 1, 0, 1])) ?_
  refine V_regionX Γ Δ [83] [0, 1, 2, 3, 4, 8, 9, 10, 11, 12, 13, 14, 15, 16, 17, 21, 29, 55, 87] (evs ?_)
  all_goals (try with_reducible (repeat' (first | apply And.intro | intro _)))
  all_goals (try (first | with_reducible refine wa_id ?_ | exact True.intro | omega | exact meet_fn ⟨_, _, _, _⟩ ⟨0, 0, 10, 10⟩ | exact oftile_fn ⟨0, 0⟩ | (have h := pneeds_fn 20 20 1 ⟨0, 0, 10, 10⟩; simp only [tle_n.1] at h; exact h) | exact ptiles_fn 20 20 1 | exact psize_fn 20 20 1 | exact pneeds_fn 20 20 1 ⟨0, 0, 10, 10⟩ | exact eregion_fn | exact preduce_fn (bkI ⟨0, 0, 20, 20⟩) 1))
  refine V_cond (evs ?_)
  first | refine ⟨fun hc => hc.elim, ?_⟩ | refine ⟨fun hc => absurd hc (by omega), fun hc => ?_⟩
  refine WA_skip ?_
  refine WA_seq (x := (fcd Tryz.f34 [1, 1, 1, 0])) (y := (fcd Tryz.f34 [1, 1, 1, 1])) ?_
  refine V_regionX Γ Δ [83] [0, 1, 2, 3, 4, 8, 9, 10, 11, 12, 13, 14, 15, 16, 17, 21, 29, 55, 87] (evs ?_)
  all_goals (try with_reducible (repeat' (first | apply And.intro | intro _)))
  all_goals (try (first | with_reducible refine wa_id ?_ | exact True.intro | exact ptiles_fn _ _ _ | omega | exact meet_fn ⟨_, _, _, _⟩ ⟨0, 0, 10, 10⟩ | exact oftile_fn ⟨0, 0⟩ | (have h := pneeds_fn 20 20 1 ⟨0, 0, 10, 10⟩; simp only [tle_n.1] at h; exact h) | exact ptiles_fn 20 20 1 | exact psize_fn 20 20 1 | exact pneeds_fn 20 20 1 ⟨0, 0, 10, 10⟩ | exact eregion_fn | exact preduce_fn (bkI ⟨0, 0, 20, 20⟩) 1))
  simp only [tle_n.2.1, tle_n.2.2]
  refine WA_seq (x := (fcd Tryz.f34 [1, 1, 1, 1, 0])) (y := (fcd Tryz.f34 [1, 1, 1, 1, 1])) ?_
  refine WA_seq (x := (fcd Tryz.f34 [1, 1, 1, 1, 0, 0])) (y := (fcd Tryz.f34 [1, 1, 1, 1, 0, 1])) ?_
  refine V_regionX Γ Δ [83] [0, 1, 2, 3, 4, 8, 9, 10, 11, 12, 13, 14, 15, 16, 17, 21, 29, 55, 87] (evs ?_)
  all_goals (try with_reducible (repeat' (first | apply And.intro | intro _)))
  all_goals (try (first | with_reducible refine wa_id ?_ | exact True.intro | omega | exact meet_fn ⟨_, _, _, _⟩ ⟨0, 0, 10, 10⟩ | exact oftile_fn ⟨0, 0⟩ | (have h := pneeds_fn 20 20 1 ⟨0, 0, 10, 10⟩; simp only [tle_n.1] at h; exact h) | exact ptiles_fn 20 20 1 | exact psize_fn 20 20 1 | exact pneeds_fn 20 20 1 ⟨0, 0, 10, 10⟩ | exact eregion_fn | exact preduce_fn (bkI ⟨0, 0, 20, 20⟩) 1))
  refine V_cond (evs ?_)
  refine ⟨fun hc => by exact absurd hc (by omega), fun hc => ?_⟩
  refine WA_skip ?_
  refine WA_seq (x := (fcd Tryz.f34 [1, 1, 1, 1, 1, 0])) (y := (fcd Tryz.f34 [1, 1, 1, 1, 1, 1])) ?_
  refine V_regionX Γ Δ [83] [0, 1, 2, 3, 4, 8, 9, 10, 11, 12, 13, 14, 15, 16, 17, 21, 29, 55, 87] (evs ?_)
  all_goals (try with_reducible (repeat' (first | apply And.intro | intro _)))
  all_goals (try (first | with_reducible refine wa_id ?_ | exact True.intro | exact psize_fn _ _ _ | omega | exact meet_fn ⟨_, _, _, _⟩ ⟨0, 0, 10, 10⟩ | exact oftile_fn ⟨0, 0⟩ | (have h := pneeds_fn 20 20 1 ⟨0, 0, 10, 10⟩; simp only [tle_n.1] at h; exact h) | exact ptiles_fn 20 20 1 | exact psize_fn 20 20 1 | exact pneeds_fn 20 20 1 ⟨0, 0, 10, 10⟩ | exact eregion_fn | exact preduce_fn (bkI ⟨0, 0, 20, 20⟩) 1))
  simp only [tle_n.2.1, tle_n.2.2]
  refine WA_seq (x := (fcd Tryz.f34 [1, 1, 1, 1, 1, 1, 0])) (y := (fcd Tryz.f34 [1, 1, 1, 1, 1, 1, 1])) ?_
  refine V_regionX Γ Δ [83] [0, 1, 2, 3, 4, 8, 9, 10, 11, 12, 13, 14, 15, 16, 17, 21, 29, 55, 87] (evs ?_)
  all_goals (try with_reducible (repeat' (first | apply And.intro | intro _)))
  all_goals (try (first | with_reducible refine wa_id ?_ | exact True.intro | exact tileR_fn ⟨_, _⟩ | exact meet_fn _ _ | omega | exact meet_fn ⟨_, _, _, _⟩ ⟨0, 0, 10, 10⟩ | exact oftile_fn ⟨0, 0⟩ | (have h := pneeds_fn 20 20 1 ⟨0, 0, 10, 10⟩; simp only [tle_n.1] at h; exact h) | exact ptiles_fn 20 20 1 | exact psize_fn 20 20 1 | exact pneeds_fn 20 20 1 ⟨0, 0, 10, 10⟩ | exact eregion_fn | exact preduce_fn (bkI ⟨0, 0, 20, 20⟩) 1))
  simp only [tle_m]
  refine WA_seq (x := (fcd Tryz.f34 [1, 1, 1, 1, 1, 1, 1, 0])) (y := (fcd Tryz.f34 [1, 1, 1, 1, 1, 1, 1, 1])) ?_
  refine V_draw Γ [83] [0, 1, 2, 3, 4, 8, 9, 10, 11, 12, 13, 14, 15, 16, 17, 21, 29, 55, 87] mixed (by kernel_rfl) (evs ?_)
  simp only [tle_n.1]
  all_goals (try with_reducible (repeat' (first | apply And.intro | intro _)))
  all_goals (try (first | with_reducible refine wa_id ?_ | exact True.intro | exact pneeds_fn _ _ _ ⟨_, _, _, _⟩ | exact eregion_fn | omega | exact meet_fn ⟨_, _, _, _⟩ ⟨0, 0, 10, 10⟩ | exact oftile_fn ⟨0, 0⟩ | (have h := pneeds_fn 20 20 1 ⟨0, 0, 10, 10⟩; simp only [tle_n.1] at h; exact h) | exact ptiles_fn 20 20 1 | exact psize_fn 20 20 1 | exact pneeds_fn 20 20 1 ⟨0, 0, 10, 10⟩ | exact eregion_fn | exact preduce_fn (bkI ⟨0, 0, 20, 20⟩) 1))
  refine WA_seq (x := (fcd Tryz.f34 [1, 1, 1, 1, 1, 1, 1, 1, 0])) (y := (fcd Tryz.f34 [1, 1, 1, 1, 1, 1, 1, 1, 1])) ?_
  refine WA_seq (x := (fcd Tryz.f34 [1, 1, 1, 1, 1, 1, 1, 1, 0, 0])) (y := (fcd Tryz.f34 [1, 1, 1, 1, 1, 1, 1, 1, 0, 1])) ?_
  refine V_regionX Γ Δ [83] [0, 1, 2, 3, 4, 8, 9, 10, 11, 12, 13, 14, 15, 16, 17, 21, 29, 55, 87] (evs ?_)
  all_goals (try with_reducible (repeat' (first | apply And.intro | intro _)))
  all_goals (try (first | with_reducible refine wa_id ?_ | exact True.intro | omega | exact meet_fn ⟨_, _, _, _⟩ ⟨0, 0, 10, 10⟩ | exact oftile_fn ⟨0, 0⟩ | (have h := pneeds_fn 20 20 1 ⟨0, 0, 10, 10⟩; simp only [tle_n.1] at h; exact h) | exact ptiles_fn 20 20 1 | exact psize_fn 20 20 1 | exact pneeds_fn 20 20 1 ⟨0, 0, 10, 10⟩ | exact eregion_fn | exact preduce_fn (bkI ⟨0, 0, 20, 20⟩) 1))
  refine V_cond (evs ?_)
  first | refine ⟨fun hc => hc.elim, ?_⟩ | refine ⟨fun hc => absurd hc (by omega), fun hc => ?_⟩
  refine WA_skip ?_
  refine WA_seq (x := (fcd Tryz.f34 [1, 1, 1, 1, 1, 1, 1, 1, 1, 0])) (y := (fcd Tryz.f34 [1, 1, 1, 1, 1, 1, 1, 1, 1, 1])) ?_
  refine V_regionX Γ Δ [83] [0, 1, 2, 3, 4, 8, 9, 10, 11, 12, 13, 14, 15, 16, 17, 21, 29, 55, 87] (evs ?_)
  all_goals (try with_reducible (repeat' (first | apply And.intro | intro _)))
  all_goals (try (first | with_reducible refine wa_id ?_ | exact True.intro | exact preduce_fn ⟨_, _, _⟩ _ | omega | exact meet_fn ⟨_, _, _, _⟩ ⟨0, 0, 10, 10⟩ | exact oftile_fn ⟨0, 0⟩ | (have h := pneeds_fn 20 20 1 ⟨0, 0, 10, 10⟩; simp only [tle_n.1] at h; exact h) | exact ptiles_fn 20 20 1 | exact psize_fn 20 20 1 | exact pneeds_fn 20 20 1 ⟨0, 0, 10, 10⟩ | exact eregion_fn | exact preduce_fn (bkI ⟨0, 0, 20, 20⟩) 1))
  refine V_ret (evs ?_)
  first | exact ik0 _ ⟨rfl, rfl⟩ | exact ik (tleI 0) (v := (tleI 0).p) ⟨rfl, rfl⟩ | (simp only [tle_r.1, tle_r.2]; exact ⟨⟨rfl, rfl, rfl⟩, rfl⟩)

set_option maxHeartbeats 4000000 in
set_option maxRecDepth 100000 in
theorem tile1_fn  : Eng.Fn Tryz.prog 34 [.agg [.i 20, .i 20, .i 0, .v (.slice none 0 0), .i 1, .i 0, .i 0, .v (.slice none 0 0), .v (.slice none 0 0), .v (.slice none 0 0)], .i 1, .i 1, .i 0] (.tup [.agg [.dat (.i (tleI 1).w), .dat (.i (tleI 1).h), .dat (.sl 4 ((tleI 1).p.map pxC))], .dat (.i (tleE 1))]) := by
  refine Eng.Fn.by (fn := Tryz.f34) 95 [.cell 8 31, .tmp 9] Tryz.func34 rfl Tryz.ntmps34 rfl (by simp) fun w0 G0 => ?_
  refine WA_seq (x := (fcd Tryz.f34 [0])) (y := (fcd Tryz.f34 [1])) ?_
  refine V_regionX Γ Δ [83] [0, 1, 2, 3, 4, 8, 9, 10, 11, 12, 13, 14, 15, 16, 17, 21, 29, 55, 87] (evs ?_)
  all_goals (try with_reducible (repeat' (first | apply And.intro | intro _)))
  all_goals (try (first | with_reducible refine wa_id ?_ | exact True.intro | omega | exact meet_fn ⟨_, _, _, _⟩ ⟨0, 0, 10, 10⟩ | exact oftile_fn ⟨0, 0⟩ | (have h := pneeds_fn 20 20 1 ⟨0, 0, 10, 10⟩; simp only [tle_n.1] at h; exact h) | exact ptiles_fn 20 20 1 | exact psize_fn 20 20 1 | exact pneeds_fn 20 20 1 ⟨0, 0, 10, 10⟩ | exact eregion_fn | exact preduce_fn (bkI ⟨0, 0, 20, 20⟩) 1))
  refine WA_seq (x := (fcd Tryz.f34 [1, 0])) (y := (fcd Tryz.f34 [1, 1])) ?_
  refine WA_seq (x := (fcd Tryz.f34 [1, 0, 0])) (y := (fcd Tryz.f34 [1, 0, 1])) ?_
  refine V_regionX Γ Δ [83] [0, 1, 2, 3, 4, 8, 9, 10, 11, 12, 13, 14, 15, 16, 17, 21, 29, 55, 87] (evs ?_)
  all_goals (try with_reducible (repeat' (first | apply And.intro | intro _)))
  all_goals (try (first | with_reducible refine wa_id ?_ | exact True.intro | exact dcheck_fn | omega | exact meet_fn ⟨_, _, _, _⟩ ⟨0, 0, 10, 10⟩ | exact oftile_fn ⟨0, 0⟩ | (have h := pneeds_fn 20 20 1 ⟨0, 0, 10, 10⟩; simp only [tle_n.1] at h; exact h) | exact ptiles_fn 20 20 1 | exact psize_fn 20 20 1 | exact pneeds_fn 20 20 1 ⟨0, 0, 10, 10⟩ | exact eregion_fn | exact preduce_fn (bkI ⟨0, 0, 20, 20⟩) 1))
  refine WA_seq (x := (fcd Tryz.f34 [1, 0, 1, 0])) (y := (fcd Tryz.f34 [1, 0, 1, 1])) ?_
  refine V_regionX Γ Δ [83] [0, 1, 2, 3, 4, 8, 9, 10, 11, 12, 13, 14, 15, 16, 17, 21, 29, 55, 87] (evs ?_)
  all_goals (try with_reducible (repeat' (first | apply And.intro | intro _)))
  all_goals (try (first | with_reducible refine wa_id ?_ | exact True.intro | omega | exact meet_fn ⟨_, _, _, _⟩ ⟨0, 0, 10, 10⟩ | exact oftile_fn ⟨0, 0⟩ | (have h := pneeds_fn 20 20 1 ⟨0, 0, 10, 10⟩; simp only [tle_n.1] at h; exact h) | exact ptiles_fn 20 20 1 | exact psize_fn 20 20 1 | exact pneeds_fn 20 20 1 ⟨0, 0, 10, 10⟩ | exact eregion_fn | exact preduce_fn (bkI ⟨0, 0, 20, 20⟩) 1))
  refine V_cond (evs ?_)
  first | refine ⟨fun hc => hc.elim, ?_⟩ | refine ⟨fun hc => absurd hc (by omega), fun hc => ?_⟩
  refine WA_skip ?_
  refine WA_seq (x := (fcd Tryz.f34 [1, 1, 0])) (y := (fcd Tryz.f34 [1, 1, 1])) ?_
  refine WA_seq (x := (fcd Tryz.f34 [1, 1, 0, 0])) (y := (fcd Tryz.f34 [1, 1, 0, 1])) ?_
  refine V_regionX Γ Δ [83] [0, 1, 2, 3, 4, 8, 9, 10, 11, 12, 13, 14, 15, 16, 17, 21, 29, 55, 87] (evs ?_)
  all_goals (try with_reducible (repeat' (first | apply And.intro | intro _)))
  all_goals (try (first | with_reducible refine wa_id ?_ | exact True.intro | omega | exact meet_fn ⟨_, _, _, _⟩ ⟨0, 0, 10, 10⟩ | exact oftile_fn ⟨0, 0⟩ | (have h := pneeds_fn 20 20 1 ⟨0, 0, 10, 10⟩; simp only [tle_n.1] at h; exact h) | exact ptiles_fn 20 20 1 | exact psize_fn 20 20 1 | exact pneeds_fn 20 20 1 ⟨0, 0, 10, 10⟩ | exact eregion_fn | exact preduce_fn (bkI ⟨0, 0, 20, 20⟩) 1))
  refine V_cond (evs ?_)
  first | refine ⟨fun hc => hc.elim, ?_⟩ | refine ⟨fun hc => absurd hc (by omega), fun hc => ?_⟩
  refine WA_skip ?_
  refine WA_seq (x := (fcd Tryz.f34 [1, 1, 1, 0])) (y := (fcd Tryz.f34 [1, 1, 1, 1])) ?_
  refine V_regionX Γ Δ [83] [0, 1, 2, 3, 4, 8, 9, 10, 11, 12, 13, 14, 15, 16, 17, 21, 29, 55, 87] (evs ?_)
  all_goals (try with_reducible (repeat' (first | apply And.intro | intro _)))
  all_goals (try (first | with_reducible refine wa_id ?_ | exact True.intro | exact ptiles_fn _ _ _ | omega | exact meet_fn ⟨_, _, _, _⟩ ⟨0, 0, 10, 10⟩ | exact oftile_fn ⟨0, 0⟩ | (have h := pneeds_fn 20 20 1 ⟨0, 0, 10, 10⟩; simp only [tle_n.1] at h; exact h) | exact ptiles_fn 20 20 1 | exact psize_fn 20 20 1 | exact pneeds_fn 20 20 1 ⟨0, 0, 10, 10⟩ | exact eregion_fn | exact preduce_fn (bkI ⟨0, 0, 20, 20⟩) 1))
  simp only [tle_n.2.1, tle_n.2.2]
  refine WA_seq (x := (fcd Tryz.f34 [1, 1, 1, 1, 0])) (y := (fcd Tryz.f34 [1, 1, 1, 1, 1])) ?_
  refine WA_seq (x := (fcd Tryz.f34 [1, 1, 1, 1, 0, 0])) (y := (fcd Tryz.f34 [1, 1, 1, 1, 0, 1])) ?_
  refine V_regionX Γ Δ [83] [0, 1, 2, 3, 4, 8, 9, 10, 11, 12, 13, 14, 15, 16, 17, 21, 29, 55, 87] (evs ?_)
  all_goals (try with_reducible (repeat' (first | apply And.intro | intro _)))
  all_goals (try (first | with_reducible refine wa_id ?_ | exact True.intro | omega | exact meet_fn ⟨_, _, _, _⟩ ⟨0, 0, 10, 10⟩ | exact oftile_fn ⟨0, 0⟩ | (have h := pneeds_fn 20 20 1 ⟨0, 0, 10, 10⟩; simp only [tle_n.1] at h; exact h) | exact ptiles_fn 20 20 1 | exact psize_fn 20 20 1 | exact pneeds_fn 20 20 1 ⟨0, 0, 10, 10⟩ | exact eregion_fn | exact preduce_fn (bkI ⟨0, 0, 20, 20⟩) 1))
  refine V_cond (evs ?_)
  refine ⟨fun hc => ?_, fun hc => by exact absurd hc (by omega)⟩
  refine WA_seq (x := (fcd Tryz.f34 [1, 1, 1, 1, 0, 1, 0, 0])) (y := (fcd Tryz.f34 [1, 1, 1, 1, 0, 1, 0, 1])) ?_
  refine V_regionX Γ Δ [83] [0, 1, 2, 3, 4, 8, 9, 10, 11, 12, 13, 14, 15, 16, 17, 21, 29, 55, 87] (evs ?_)
  all_goals (try with_reducible (repeat' (first | apply And.intro | intro _)))
  all_goals (try (first | with_reducible refine wa_id ?_ | exact True.intro | omega | exact meet_fn ⟨_, _, _, _⟩ ⟨0, 0, 10, 10⟩ | exact oftile_fn ⟨0, 0⟩ | (have h := pneeds_fn 20 20 1 ⟨0, 0, 10, 10⟩; simp only [tle_n.1] at h; exact h) | exact ptiles_fn 20 20 1 | exact psize_fn 20 20 1 | exact pneeds_fn 20 20 1 ⟨0, 0, 10, 10⟩ | exact eregion_fn | exact preduce_fn (bkI ⟨0, 0, 20, 20⟩) 1))
  refine V_ret (evs ?_)
  first | exact ik0 _ ⟨rfl, rfl⟩ | exact ik (tleI 0) (v := (tleI 0).p) ⟨rfl, rfl⟩ | (simp only [tle_r.1, tle_r.2]; exact ⟨⟨rfl, rfl, rfl⟩, rfl⟩)

end Go.S35

