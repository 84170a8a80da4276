import Derived.Test.YtgkflbibpkkegaaGreatDoorB1
import Derived.Test.YtgkflbibpkkegaaGreatDoorA1
set_option linter.unusedSimpArgs false
set_option linter.unusedVariables false
set_option linter.unusedSimpArgs false
set_option linter.unusedVariables false
namespace Go.S35
open Go.RowKit Go.Proofs Go.Eng Go.Rect
set_option maxHeartbeats 2000000 in
set_option maxRecDepth 100000 in
theorem rneeds_fn (w h l : Int) (out : Rc) : Eng.Fn Tryz.prog 13 [.i w, .i h, .i l, rcD out] (.dat (rcD (ndsR w h l out))) := by
  refine Eng.Fn.by (fn := Tryz.f13) 87 [.cell 8 23] Tryz.func13 rfl Tryz.ntmps13 rfl (by simp) fun w0 G0 => ?_
  refine WA_seq (x := (fcd Tryz.f13 [0])) (y := (fcd Tryz.f13 [1])) ?_
  refine V_regionX Γ Δ [] [0, 1, 2, 3, 7, 8, 9, 10, 11, 12, 43, 57, 61] (evs ?_)
  all_goals (try with_reducible (repeat' (first | apply And.intro | intro _)))
  all_goals (try (first | with_reducible refine wa_id ?_ | exact True.intro | omega | exact rwithin_fn out ⟨0, 0, szK w l, szK h l⟩ | exact rmeet_fn ⟨_, _, _, _⟩ ⟨_, _, _, _⟩))
  refine WA_seq (x := (fcd Tryz.f13 [1, 0])) (y := (fcd Tryz.f13 [1, 1])) ?_
  refine WA_seq (x := (fcd Tryz.f13 [1, 0, 0])) (y := (fcd Tryz.f13 [1, 0, 1])) ?_
  refine V_regionX Γ Δ [] [0, 1, 2, 3, 7, 8, 9, 10, 11, 12, 43, 57, 61] (evs ?_)
  all_goals (try with_reducible (repeat' (first | apply And.intro | intro _)))
  all_goals (try (first | with_reducible refine wa_id ?_ | exact True.intro | exact rvalid_fn _ | exact rempty_fn _ | omega | exact rwithin_fn out ⟨0, 0, szK w l, szK h l⟩ | exact rmeet_fn ⟨_, _, _, _⟩ ⟨_, _, _, _⟩))
  refine V_cond (evs ?_)
  refine ⟨fun hc => ?_, fun hc => ?_⟩
  · refine WA_seq (x := (fcd Tryz.f13 [1, 0, 1, 0, 0])) (y := (fcd Tryz.f13 [1, 0, 1, 0, 1])) ?_
    refine V_regionX Γ Δ [] [0, 1, 2, 3, 7, 8, 9, 10, 11, 12, 43, 57, 61] (evs ?_)
    all_goals (try with_reducible (repeat' (first | apply And.intro | intro _)))
    all_goals (try (first | with_reducible refine wa_id ?_ | exact True.intro | omega | exact rwithin_fn out ⟨0, 0, szK w l, szK h l⟩ | exact rmeet_fn ⟨_, _, _, _⟩ ⟨_, _, _, _⟩))
    refine V_ret (evs ?_)
    first | exact fe (r := zR) (rn2 hc) | exact fe (r := zR) (nd_w hc) | exact fe (nd_c h0 he hw)
  · refine WA_skip ?_
    refine WA_seq (x := (fcd Tryz.f13 [1, 1, 0])) (y := (fcd Tryz.f13 [1, 1, 1])) ?_
    refine V_regionX Γ Δ [] [0, 1, 2, 3, 7, 8, 9, 10, 11, 12, 43, 57, 61] (evs ?_)
    have h0 := rn0 hc
    have he := rn1 hc
    all_goals (try with_reducible (repeat' (first | apply And.intro | intro _)))
    all_goals (try (first | with_reducible refine wa_id ?_ | exact True.intro | exact rsize_fn _ _ _ | omega | exact rwithin_fn out ⟨0, 0, szK w l, szK h l⟩ | exact rmeet_fn ⟨_, _, _, _⟩ ⟨_, _, _, _⟩))
    refine WA_seq (x := (fcd Tryz.f13 [1, 1, 1, 0])) (y := (fcd Tryz.f13 [1, 1, 1, 1])) ?_
    refine WA_seq (x := (fcd Tryz.f13 [1, 1, 1, 0, 0])) (y := (fcd Tryz.f13 [1, 1, 1, 0, 1])) ?_
    refine V_regionX Γ Δ [] [0, 1, 2, 3, 7, 8, 9, 10, 11, 12, 43, 57, 61] (evs ?_)
    all_goals (try with_reducible (repeat' (first | apply And.intro | intro _)))
    all_goals (try (first | with_reducible refine wa_id ?_ | exact True.intro | exact rwithin_fn _ _ | omega | exact rwithin_fn out ⟨0, 0, szK w l, szK h l⟩ | exact rmeet_fn ⟨_, _, _, _⟩ ⟨_, _, _, _⟩))
    refine V_cond (evs ?_)
    refine ⟨fun hc => ?_, fun hc => ?_⟩
    · refine WA_seq (x := (fcd Tryz.f13 [1, 1, 1, 0, 1, 0, 0])) (y := (fcd Tryz.f13 [1, 1, 1, 0, 1, 0, 1])) ?_
      refine V_regionX Γ Δ [] [0, 1, 2, 3, 7, 8, 9, 10, 11, 12, 43, 57, 61] (evs ?_)
      all_goals (try with_reducible (repeat' (first | apply And.intro | intro _)))
      all_goals (try (first | with_reducible refine wa_id ?_ | exact True.intro | omega | exact rwithin_fn out ⟨0, 0, szK w l, szK h l⟩ | exact rmeet_fn ⟨_, _, _, _⟩ ⟨_, _, _, _⟩))
      refine V_ret (evs ?_)
      first | exact fe (r := zR) (rn2 hc) | exact fe (r := zR) (nd_w hc) | exact fe (nd_c h0 he hw)
    · refine WA_skip ?_
      refine WA_seq (x := (fcd Tryz.f13 [1, 1, 1, 1, 0])) (y := (fcd Tryz.f13 [1, 1, 1, 1, 1])) ?_
      refine V_regionX Γ Δ [] [0, 1, 2, 3, 7, 8, 9, 10, 11, 12, 43, 57, 61] (evs ?_)
      have hw := hc
      have hin := nds_in h0 he hw
      all_goals (try with_reducible (repeat' (first | apply And.intro | intro _)))
      all_goals (try (first | with_reducible refine wa_id ?_ | exact True.intro | omega | exact rwithin_fn out ⟨0, 0, szK w l, szK h l⟩ | exact rmeet_fn ⟨_, _, _, _⟩ ⟨_, _, _, _⟩))
      refine WA_seq (x := (fcd Tryz.f13 [1, 1, 1, 1, 1, 0])) (y := (fcd Tryz.f13 [1, 1, 1, 1, 1, 1])) ?_
      refine WA_seq (x := (fcd Tryz.f13 [1, 1, 1, 1, 1, 0, 0])) (y := (fcd Tryz.f13 [1, 1, 1, 1, 1, 0, 1])) ?_
      refine V_regionX Γ Δ [] [0, 1, 2, 3, 7, 8, 9, 10, 11, 12, 43, 57, 61] (evs ?_)
      all_goals (try with_reducible (repeat' (first | apply And.intro | intro _)))
      all_goals (try (first | with_reducible refine wa_id ?_ | exact True.intro | omega | exact rwithin_fn out ⟨0, 0, szK w l, szK h l⟩ | exact rmeet_fn ⟨_, _, _, _⟩ ⟨_, _, _, _⟩))
      refine WA_block (c := (fcd Tryz.f13 [1, 1, 1, 1, 1, 0, 1, 0])) ?_
      refine V_loop (c := (fcd Tryz.f13 [1, 1, 1, 1, 1, 0, 1, 0, 0])) (α := Nat) [11, 12, 61] [] (fun k => [(12, .dat (.i (k : Int))), (11, .dat (.i (2 ^ k)))]) (fun k => []) (fun k => (k : Int) ≤ l) (fun k => l.toNat - k) 0 [] ?_ (evs ?_) ?_
      · omega
      · (try with_reducible (repeat' (first | apply And.intro | intro _)))
        all_goals (first | exact True.intro | omega | (first | rfl))
      · intro k hI
        refine WA_seq (x := (fcd Tryz.f13 [1, 1, 1, 1, 1, 0, 1, 0, 0, 0])) (y := (fcd Tryz.f13 [1, 1, 1, 1, 1, 0, 1, 0, 0, 1])) ?_
        refine WA_seq (x := (fcd Tryz.f13 [1, 1, 1, 1, 1, 0, 1, 0, 0, 0, 0])) (y := (fcd Tryz.f13 [1, 1, 1, 1, 1, 0, 1, 0, 0, 0, 1])) ?_
        refine V_regionX Γ Δ [] [0, 1, 2, 3, 7, 8, 9, 10, 11, 12, 43, 57, 61] (evs ?_)
        all_goals (try with_reducible (repeat' (first | apply And.intro | intro _)))
        all_goals (try (first | with_reducible refine wa_id ?_ | exact True.intro | omega | exact rwithin_fn out ⟨0, 0, szK w l, szK h l⟩ | exact rmeet_fn ⟨_, _, _, _⟩ ⟨_, _, _, _⟩))
        refine V_cond (evs ?_)
        refine ⟨fun hc => ?_, fun hc => ?_⟩
        · refine WA_skip ?_
          refine WA_seq (x := (fcd Tryz.f13 [1, 1, 1, 1, 1, 0, 1, 0, 0, 1, 0])) (y := (fcd Tryz.f13 [1, 1, 1, 1, 1, 0, 1, 0, 0, 1, 1])) ?_
          refine WA_block (c := (fcd Tryz.f13 [1, 1, 1, 1, 1, 0, 1, 0, 0, 1, 0, 0])) ?_
          refine V_regionX Γ Δ [] [0, 1, 2, 3, 7, 8, 9, 10, 11, 12, 43, 57, 61] (evs ?_)
          simp only [p2_s ‹(k : Int) < l› (by omega)]
          all_goals (try with_reducible (repeat' (first | apply And.intro | intro _)))
          all_goals (try (first | with_reducible refine wa_id ?_ | exact True.intro | omega | exact rwithin_fn out ⟨0, 0, szK w l, szK h l⟩ | exact rmeet_fn ⟨_, _, _, _⟩ ⟨_, _, _, _⟩))
          refine V_regionX Γ Δ [] [0, 1, 2, 3, 7, 8, 9, 10, 11, 12, 43, 57, 61] (evs ?_)
          all_goals (try with_reducible (repeat' (first | apply And.intro | intro _)))
          all_goals (try (first | with_reducible refine wa_id ?_ | exact True.intro | omega | exact rwithin_fn out ⟨0, 0, szK w l, szK h l⟩ | exact rmeet_fn ⟨_, _, _, _⟩ ⟨_, _, _, _⟩))
          refine V_next [] (k + 1) (evs ?_) ?_ ?_
          all_goals (try with_reducible (repeat' (first | apply And.intro | intro _)))
          all_goals (first | exact True.intro | omega | (first | rfl | exact w64l (n := 8) (by omega) (by omega)))
        · refine V_exit (evs ?_)
          refine WA_seq (x := (fcd Tryz.f13 [1, 1, 1, 1, 1, 1, 0])) (y := (fcd Tryz.f13 [1, 1, 1, 1, 1, 1, 1])) ?_
          refine V_regionX Γ Δ [] [0, 1, 2, 3, 7, 8, 9, 10, 11, 12, 43, 57, 61] (evs ?_)
          have hke := p2_e hI hc
          subst hke
          have hp := pow_le (k := l.toNat) (by omega)
          simp only [sh_m hp hin.1, sh_m hp hin.2.1, sh_m hp hin.2.2.1, sh_m hp hin.2.2.2]
          all_goals (try with_reducible (repeat' (first | apply And.intro | intro _)))
          all_goals (try (first | with_reducible refine wa_id ?_ | exact True.intro | exact rmeet_fn _ _ | omega | exact rwithin_fn out ⟨0, 0, szK w l, szK h l⟩ | exact rmeet_fn ⟨_, _, _, _⟩ ⟨_, _, _, _⟩))
          refine V_ret (evs ?_)
          first | exact fe (r := zR) (rn2 hc) | exact fe (r := zR) (nd_w hc) | exact fe (nd_c h0 he hw)

end Go.S35

