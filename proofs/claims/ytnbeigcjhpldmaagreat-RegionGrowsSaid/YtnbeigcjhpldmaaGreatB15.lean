import Derived.Test.YtnbeigcjhpldmaaGreatA1
import Derived.Test.YtnbeigcjhpldmaaGreatB2
import Derived.Test.YtnbeigcjhpldmaaGreatFB
set_option linter.unusedSimpArgs false
set_option linter.unusedVariables false
set_option linter.unusedSimpArgs false
set_option linter.unusedVariables false
namespace Go.S03
open Go.RowKit Go.Proofs Go.Eng Go.Rect
set_option maxHeartbeats 8000000 in
set_option maxRecDepth 100000 in
theorem right_fn (a : List Rc) : Eng.Fn Tryz.prog 28 [.sl 4 (a.map rcC)] (.dat (.b (rightB a))) := by
  refine Eng.Fn.by (fn := Tryz.f28) 122 [.tmp 2] Tryz.func28 rfl Tryz.ntmps28 rfl (by simp) fun w0 G0 => ?_
  refine WA_seq (x := (fcd Tryz.f28 [0])) (y := (fcd Tryz.f28 [1])) ?_
  refine V_regionX Γ Δ [] [0, 2, 4, 5, 6, 7, 8, 9, 10, 11, 12, 13, 17, 22, 51, 76, 115] (evs ?_)
  all_goals (try with_reducible (repeat' (first | apply And.intro | intro _)))
  all_goals (try (first | with_reducible refine wa_id ?_ | exact True.intro | omega | exact empty_fn ⟨_, _, _, _⟩ | exact eqrw_fn _ _ | exact Fn.nil0 2 (eqrw_fn [] _)))
  refine WA_seq (x := (fcd Tryz.f28 [1, 0])) (y := (fcd Tryz.f28 [1, 1])) ?_
  refine WA_seq (x := (fcd Tryz.f28 [1, 0, 0])) (y := (fcd Tryz.f28 [1, 0, 1])) ?_
  refine V_regionX Γ Δ [] [0, 2, 4, 5, 6, 7, 8, 9, 10, 11, 12, 13, 17, 22, 51, 76, 115] (evs ?_)
  all_goals (try with_reducible (repeat' (first | apply And.intro | intro _)))
  all_goals (try (first | with_reducible refine wa_id ?_ | exact True.intro | omega | exact empty_fn ⟨_, _, _, _⟩ | exact eqrw_fn _ _ | exact Fn.nil0 2 (eqrw_fn [] _)))
  refine WA_block (c := (fcd Tryz.f28 [1, 0, 1, 0])) ?_
  refine V_loop (c := (fcd Tryz.f28 [1, 0, 1, 0, 0])) (α := Nat) [2, 4, 12, 13, 17] [4, 11700, 11701, 11702, 11703] (fun q => [(12, .dat (.i (q : Int)))]) (fun q => []) (fun q => q ≤ a.length ∧ ∀ j, j < q → emptyB (a.getD j zR) = false) (fun q => a.length - q) 0 [] ?_ (evs ?_) ?_
  · exact ⟨Nat.zero_le _, fun j hj => by omega⟩
  · (try with_reducible (repeat' (first | apply And.intro | intro _)))
    all_goals (first | exact True.intro | omega | (first | rfl))
  · intro q hQ
    refine WA_seq (x := (fcd Tryz.f28 [1, 0, 1, 0, 0, 0])) (y := (fcd Tryz.f28 [1, 0, 1, 0, 0, 1])) ?_
    refine V_regionX Γ Δ [] [0, 2, 4, 5, 6, 7, 8, 9, 10, 11, 12, 13, 17, 22, 51, 76, 115] (evs ?_)
    all_goals (try with_reducible (repeat' (first | apply And.intro | intro _)))
    all_goals (try (first | with_reducible refine wa_id ?_ | exact True.intro | omega | exact empty_fn ⟨_, _, _, _⟩ | exact eqrw_fn _ _ | exact Fn.nil0 2 (eqrw_fn [] _)))
    refine WA_seq (x := (fcd Tryz.f28 [1, 0, 1, 0, 0, 1, 0])) (y := (fcd Tryz.f28 [1, 0, 1, 0, 0, 1, 1])) ?_
    refine V_cond (evs ?_)
    refine ⟨fun hc => ?_, fun hc => ?_⟩
    · refine WA_skip ?_
      refine WA_seq (x := (fcd Tryz.f28 [1, 0, 1, 0, 0, 1, 1, 0])) (y := (fcd Tryz.f28 [1, 0, 1, 0, 0, 1, 1, 1])) ?_
      refine WA_block (c := (fcd Tryz.f28 [1, 0, 1, 0, 0, 1, 1, 0, 0])) ?_
      refine WA_seq (x := (fcd Tryz.f28 [1, 0, 1, 0, 0, 1, 1, 0, 0, 0])) (y := (fcd Tryz.f28 [1, 0, 1, 0, 0, 1, 1, 0, 0, 1])) ?_
      refine V_regionX Γ Δ [] [0, 2, 4, 5, 6, 7, 8, 9, 10, 11, 12, 13, 17, 22, 51, 76, 115] (evs ?_)
      all_goals (try with_reducible (repeat' (first | apply And.intro | intro _)))
      all_goals (try (first | with_reducible refine wa_id ?_ | exact True.intro | omega | exact empty_fn ⟨_, _, _, _⟩ | exact eqrw_fn _ _ | exact Fn.nil0 2 (eqrw_fn [] _)))
      refine WA_seq (x := (fcd Tryz.f28 [1, 0, 1, 0, 0, 1, 1, 0, 0, 1, 0])) (y := (fcd Tryz.f28 [1, 0, 1, 0, 0, 1, 1, 0, 0, 1, 1])) ?_
      refine V_regionX Γ Δ [] [0, 2, 4, 5, 6, 7, 8, 9, 10, 11, 12, 13, 17, 22, 51, 76, 115] (evs ?_)
      all_goals (try with_reducible (repeat' (first | apply And.intro | intro _)))
      all_goals (try (first | with_reducible refine wa_id ?_ | exact True.intro | exact empty_fn _ | omega | exact empty_fn ⟨_, _, _, _⟩ | exact eqrw_fn _ _ | exact Fn.nil0 2 (eqrw_fn [] _)))
      refine V_cond (evs ?_)
      refine ⟨fun hc => ?_, fun hc => ?_⟩
      · refine WA_seq (x := (fcd Tryz.f28 [1, 0, 1, 0, 0, 1, 1, 0, 0, 1, 1, 0, 0])) (y := (fcd Tryz.f28 [1, 0, 1, 0, 0, 1, 1, 0, 0, 1, 1, 0, 1])) ?_
        refine V_regionX Γ Δ [] [0, 2, 4, 5, 6, 7, 8, 9, 10, 11, 12, 13, 17, 22, 51, 76, 115] (evs ?_)
        all_goals (try with_reducible (repeat' (first | apply And.intro | intro _)))
        all_goals (try (first | with_reducible refine wa_id ?_ | exact True.intro | omega | exact empty_fn ⟨_, _, _, _⟩ | exact eqrw_fn _ _ | exact Fn.nil0 2 (eqrw_fn [] _)))
        refine V_ret (evs ?_)
        first | exact True.intro | rfl | exact rg_bad ‹_› hc | exact rgI hw hO hJ (by omega) (by omega) hc | exact rgO hw hO hJ (rge ‹_›) (by simpa [sameL] using hc) | exact rgF hw hO hc
      · refine WA_skip ?_
        refine V_regionX Γ Δ [] [0, 2, 4, 5, 6, 7, 8, 9, 10, 11, 12, 13, 17, 22, 51, 76, 115] (evs ?_)
        all_goals (try with_reducible (repeat' (first | apply And.intro | intro _)))
        all_goals (try (first | with_reducible refine wa_id ?_ | exact True.intro | omega | exact empty_fn ⟨_, _, _, _⟩ | exact eqrw_fn _ _ | exact Fn.nil0 2 (eqrw_fn [] _)))
        refine V_next [] (q + 1) (evs ?_) ?_ ?_
        all_goals (try with_reducible (repeat' (first | apply And.intro | intro _)))
        all_goals (first | exact True.intro | omega | (first | exact w64l ‹(q : Int) < _› ‹a.length ≤ 281474976710656› | exact all_s (p := fun j => emptyB (a.getD j zR) = false) hQ.2 hc _ ‹_›))
    · refine V_exit (evs ?_)
      refine WA_seq (x := (fcd Tryz.f28 [1, 1, 0])) (y := (fcd Tryz.f28 [1, 1, 1])) ?_
      refine V_regionX Γ Δ [] [0, 2, 4, 5, 6, 7, 8, 9, 10, 11, 12, 13, 17, 22, 51, 76, 115] (evs ?_)
      have hw := all_wd2 hQ.2 hc
      all_goals (try with_reducible (repeat' (first | apply And.intro | intro _)))
      all_goals (try (first | with_reducible refine wa_id ?_ | exact True.intro | omega | exact empty_fn ⟨_, _, _, _⟩ | exact eqrw_fn _ _ | exact Fn.nil0 2 (eqrw_fn [] _)))
      refine WA_seq (x := (fcd Tryz.f28 [1, 1, 1, 0])) (y := (fcd Tryz.f28 [1, 1, 1, 1])) ?_
      refine V_regionX Γ Δ [] [0, 2, 4, 5, 6, 7, 8, 9, 10, 11, 12, 13, 17, 22, 51, 76, 115] (evs ?_)
      all_goals (try with_reducible (repeat' (first | apply And.intro | intro _)))
      all_goals (try (first | with_reducible refine wa_id ?_ | exact True.intro | omega | exact empty_fn ⟨_, _, _, _⟩ | exact eqrw_fn _ _ | exact Fn.nil0 2 (eqrw_fn [] _)))
      refine WA_seq (x := (fcd Tryz.f28 [1, 1, 1, 1, 0])) (y := (fcd Tryz.f28 [1, 1, 1, 1, 1])) ?_
      refine WA_seq (x := (fcd Tryz.f28 [1, 1, 1, 1, 0, 0])) (y := (fcd Tryz.f28 [1, 1, 1, 1, 0, 1])) ?_
      refine V_regionX Γ Δ [] [0, 2, 4, 5, 6, 7, 8, 9, 10, 11, 12, 13, 17, 22, 51, 76, 115] (evs ?_)
      all_goals (try with_reducible (repeat' (first | apply And.intro | intro _)))
      all_goals (try (first | with_reducible refine wa_id ?_ | exact True.intro | omega | exact empty_fn ⟨_, _, _, _⟩ | exact eqrw_fn _ _ | exact Fn.nil0 2 (eqrw_fn [] _)))
      refine WA_block (c := (fcd Tryz.f28 [1, 1, 1, 1, 0, 1, 0])) ?_
      refine V_loop (c := (fcd Tryz.f28 [1, 1, 1, 1, 0, 1, 0, 0])) (α := Nat × Option Bd) [2, 5, 6, 7, 8, 9, 22, 51, 76, 115] [8, 35, 95, 96, 20000, 21200, 21201, 21202, 21203] (fun p => match p.2 with | none => [(7, .dat (.i (p.1 : Int))), (5, .dat (.v (.slice none 0 0))), (6, .dat (.i 0))] | some c => [(7, .dat (.i (p.1 : Int))), (5, .vw 20000 0 c.rs.length 2), (6, .dat (.i (c.y + c.h)))]) (fun p => match p.2 with | none => [] | some c => [(20000, some (true, .arr 65 2 (c.rs.map rnC)))]) (fun p => RO a p.1 p.2) (fun p => a.length - p.1) (0, none) [] ?_ (evs ?_) ?_
      · exact ro_0 a
      · (try with_reducible (repeat' (first | apply And.intro | intro _)))
        all_goals (first | exact True.intro | omega | (first | rfl))
      · rintro ⟨i, o⟩ hO
        simp only at hO
        rcases o with _ | c
        · refine WA_seq (x := (fcd Tryz.f28 [1, 1, 1, 1, 0, 1, 0, 0, 0])) (y := (fcd Tryz.f28 [1, 1, 1, 1, 0, 1, 0, 0, 1])) ?_
          refine WA_seq (x := (fcd Tryz.f28 [1, 1, 1, 1, 0, 1, 0, 0, 0, 0])) (y := (fcd Tryz.f28 [1, 1, 1, 1, 0, 1, 0, 0, 0, 1])) ?_
          refine V_regionX Γ Δ [] [0, 2, 4, 5, 6, 7, 8, 9, 10, 11, 12, 13, 17, 22, 51, 76, 115] (evs ?_)
          all_goals (try with_reducible (repeat' (first | apply And.intro | intro _)))
          all_goals (try (first | with_reducible refine wa_id ?_ | exact True.intro | omega | exact empty_fn ⟨_, _, _, _⟩ | exact eqrw_fn _ _ | exact Fn.nil0 2 (eqrw_fn [] _)))
          have hle := hO.le
          refine V_cond (evs ?_)
          refine ⟨fun hc => ?_, fun hc => ?_⟩
          · refine WA_skip ?_
            refine WA_block (c := (fcd Tryz.f28 [1, 1, 1, 1, 0, 1, 0, 0, 1, 0])) ?_
            refine WA_seq (x := (fcd Tryz.f28 [1, 1, 1, 1, 0, 1, 0, 0, 1, 0, 0])) (y := (fcd Tryz.f28 [1, 1, 1, 1, 0, 1, 0, 0, 1, 0, 1])) ?_
            refine V_regionX Γ Δ [] [0, 2, 4, 5, 6, 7, 8, 9, 10, 11, 12, 13, 17, 22, 51, 76, 115] (evs ?_)
            all_goals (try with_reducible (repeat' (first | apply And.intro | intro _)))
            all_goals (try (first | with_reducible refine wa_id ?_ | exact True.intro | omega | exact empty_fn ⟨_, _, _, _⟩ | exact eqrw_fn _ _ | exact Fn.nil0 2 (eqrw_fn [] _)))
            refine WA_seq (x := (fcd Tryz.f28 [1, 1, 1, 1, 0, 1, 0, 0, 1, 0, 1, 0])) (y := (fcd Tryz.f28 [1, 1, 1, 1, 0, 1, 0, 0, 1, 0, 1, 1])) ?_
            refine V_regionX Γ Δ [] [0, 2, 4, 5, 6, 7, 8, 9, 10, 11, 12, 13, 17, 22, 51, 76, 115] (evs ?_)
            have hq := wd_at hw ‹(i : Int) < _›
            (try simp (maxSteps := 10000000) (disch := omega) only [w64, toNs, toNp1])
            all_goals (try with_reducible (repeat' (first | apply And.intro | intro _)))
            all_goals (try (first | with_reducible refine wa_id ?_ | exact True.intro | omega | exact empty_fn ⟨_, _, _, _⟩ | exact eqrw_fn _ _ | exact Fn.nil0 2 (eqrw_fn [] _)))
            refine WA_seq (x := (fcd Tryz.f28 [1, 1, 1, 1, 0, 1, 0, 0, 1, 0, 1, 1, 0])) (y := (fcd Tryz.f28 [1, 1, 1, 1, 0, 1, 0, 0, 1, 0, 1, 1, 1])) ?_
            refine WA_seq (x := (fcd Tryz.f28 [1, 1, 1, 1, 0, 1, 0, 0, 1, 0, 1, 1, 0, 0])) (y := (fcd Tryz.f28 [1, 1, 1, 1, 0, 1, 0, 0, 1, 0, 1, 1, 0, 1])) ?_
            refine V_regionX Γ Δ [] [0, 2, 4, 5, 6, 7, 8, 9, 10, 11, 12, 13, 17, 22, 51, 76, 115] (evs ?_)
            all_goals (try with_reducible (repeat' (first | apply And.intro | intro _)))
            all_goals (try (first | with_reducible refine wa_id ?_ | exact True.intro | omega | exact empty_fn ⟨_, _, _, _⟩ | exact eqrw_fn _ _ | exact Fn.nil0 2 (eqrw_fn [] _)))
            refine WA_block (c := (fcd Tryz.f28 [1, 1, 1, 1, 0, 1, 0, 0, 1, 0, 1, 1, 0, 1, 0])) ?_
            refine V_loop (c := (fcd Tryz.f28 [1, 1, 1, 1, 0, 1, 0, 0, 1, 0, 1, 1, 0, 1, 0, 0])) (α := Nat) [2, 7, 9, 51, 76] [35, 95, 96] (fun j => [(7, .dat (.i (j : Int))), (9, .vw 20001 0 (cols a i j).length 2)]) (fun j => [(20001, some (true, .arr 65 2 ((cols a i j).map rnC)))]) (fun j => RCo a i j) (fun j => a.length - j) (i + 1) [(20001, some 35)] ?_ (evs ?_) ?_
            · exact rc_1 ‹_›
            · (try with_reducible (repeat' (first | apply And.intro | intro _)))
              all_goals (first | exact True.intro | omega | (first | rfl | (rw [cols_1 (by omega)]; rfl) | exact w64l ‹(i : Int) < _› ‹a.length ≤ 281474976710656›))
            · intro j hJ
              refine WA_seq (x := (fcd Tryz.f28 [1, 1, 1, 1, 0, 1, 0, 0, 1, 0, 1, 1, 0, 1, 0, 0, 0])) (y := (fcd Tryz.f28 [1, 1, 1, 1, 0, 1, 0, 0, 1, 0, 1, 1, 0, 1, 0, 0, 1])) ?_
              refine WA_seq (x := (fcd Tryz.f28 [1, 1, 1, 1, 0, 1, 0, 0, 1, 0, 1, 1, 0, 1, 0, 0, 0, 0])) (y := (fcd Tryz.f28 [1, 1, 1, 1, 0, 1, 0, 0, 1, 0, 1, 1, 0, 1, 0, 0, 0, 1])) ?_
              refine V_draw Γ [] [0, 2, 4, 5, 6, 7, 8, 9, 10, 11, 12, 13, 17, 22, 51, 76, 115] mixed (by kernel_rfl) (evs ?_)
              have hcl := cols_len (i := i) hJ.le
              have hlt := hJ.lt
              have hcb := cols_bd hw hJ
              all_goals (try with_reducible (repeat' (first | apply And.intro | intro _)))
              all_goals (try (first | with_reducible refine wa_id ?_ | exact True.intro | omega | exact empty_fn ⟨_, _, _, _⟩ | exact eqrw_fn _ _ | exact Fn.nil0 2 (eqrw_fn [] _)))
              refine V_cond (evs ?_)
              refine ⟨fun hc => ?_, fun hc => ?_⟩
              · refine WA_skip ?_
                refine WA_seq (x := (fcd Tryz.f28 [1, 1, 1, 1, 0, 1, 0, 0, 1, 0, 1, 1, 0, 1, 0, 0, 1, 0])) (y := (fcd Tryz.f28 [1, 1, 1, 1, 0, 1, 0, 0, 1, 0, 1, 1, 0, 1, 0, 0, 1, 1])) ?_
                refine WA_block (c := (fcd Tryz.f28 [1, 1, 1, 1, 0, 1, 0, 0, 1, 0, 1, 1, 0, 1, 0, 0, 1, 0, 0])) ?_
                refine WA_seq (x := (fcd Tryz.f28 [1, 1, 1, 1, 0, 1, 0, 0, 1, 0, 1, 1, 0, 1, 0, 0, 1, 0, 0, 0])) (y := (fcd Tryz.f28 [1, 1, 1, 1, 0, 1, 0, 0, 1, 0, 1, 1, 0, 1, 0, 0, 1, 0, 0, 1])) ?_
                refine WA_seq (x := (fcd Tryz.f28 [1, 1, 1, 1, 0, 1, 0, 0, 1, 0, 1, 1, 0, 1, 0, 0, 1, 0, 0, 0, 0])) (y := (fcd Tryz.f28 [1, 1, 1, 1, 0, 1, 0, 0, 1, 0, 1, 1, 0, 1, 0, 0, 1, 0, 0, 0, 1])) ?_
                refine V_draw Γ [] [0, 2, 4, 5, 6, 7, 8, 9, 10, 11, 12, 13, 17, 22, 51, 76, 115] mixed (by kernel_rfl) (evs ?_)
                (try simp (maxSteps := 10000000) (disch := omega) only [w64, toNs, toNp1])
                all_goals (try with_reducible (repeat' (first | apply And.intro | intro _)))
                all_goals (try (first | with_reducible refine wa_id ?_ | exact True.intro | omega | exact empty_fn ⟨_, _, _, _⟩ | exact eqrw_fn _ _ | exact Fn.nil0 2 (eqrw_fn [] _)))
                refine V_cond (evs ?_)
                refine ⟨fun hc => ?_, fun hc => ?_⟩
                · refine WA_seq (x := (fcd Tryz.f28 [1, 1, 1, 1, 0, 1, 0, 0, 1, 0, 1, 1, 0, 1, 0, 0, 1, 0, 0, 0, 1, 0, 0])) (y := (fcd Tryz.f28 [1, 1, 1, 1, 0, 1, 0, 0, 1, 0, 1, 1, 0, 1, 0, 0, 1, 0, 0, 0, 1, 0, 1])) ?_
                  refine V_regionX Γ Δ [] [0, 2, 4, 5, 6, 7, 8, 9, 10, 11, 12, 13, 17, 22, 51, 76, 115] (evs ?_)
                  all_goals (try with_reducible (repeat' (first | apply And.intro | intro _)))
                  all_goals (try (first | with_reducible refine wa_id ?_ | exact True.intro | omega | exact empty_fn ⟨_, _, _, _⟩ | exact eqrw_fn _ _ | exact Fn.nil0 2 (eqrw_fn [] _)))
                  refine V_ret (evs ?_)
                  first | exact True.intro | rfl | exact rg_bad ‹_› hc | exact rgI hw hO hJ (by omega) (by omega) hc | exact rgO hw hO hJ (rge ‹_›) (by simpa [sameL] using hc) | exact rgF hw hO hc
                · refine WA_skip ?_
                  refine V_draw Γ [] [0, 2, 4, 5, 6, 7, 8, 9, 10, 11, 12, 13, 17, 22, 51, 76, 115] mixed (by kernel_rfl) (evs ?_)
                  have hq2 := wd_at hw (k := j) (by omega)
                  (try simp (maxSteps := 10000000) (disch := omega) only [w64, toNs, toNp1])
                  all_goals (try with_reducible (repeat' (first | apply And.intro | intro _)))
                  all_goals (try (first | with_reducible refine wa_id ?_ | exact True.intro | omega | exact empty_fn ⟨_, _, _, _⟩ | exact eqrw_fn _ _ | exact Fn.nil0 2 (eqrw_fn [] _)))
                  refine V_regionX Γ Δ [] [0, 2, 4, 5, 6, 7, 8, 9, 10, 11, 12, 13, 17, 22, 51, 76, 115] (evs ?_)
                  all_goals (try with_reducible (repeat' (first | apply And.intro | intro _)))
                  all_goals (try (first | with_reducible refine wa_id ?_ | exact True.intro | omega | exact empty_fn ⟨_, _, _, _⟩ | exact eqrw_fn _ _ | exact Fn.nil0 2 (eqrw_fn [] _)))
                  refine V_next [(20001, some 96)] (j + 1) (evs ?_) ?_ ?_
                  all_goals (try with_reducible (repeat' (first | apply And.intro | intro _)))
                  all_goals (first | exact True.intro | omega | (first | exact w64l (n := a.length) (by omega) ‹a.length ≤ 281474976710656› | (rw [cols_s (by omega) (by omega), List.map_append]; rfl) | (rw [cols_s (by omega) (by omega), List.length_append]; rfl) | exact rc_s hJ (by omega) (by omega) hc.1 (by omega)))
              · refine V_exit (evs ?_)
                refine WA_seq (x := (fcd Tryz.f28 [1, 1, 1, 1, 0, 1, 0, 0, 1, 0, 1, 1, 1, 0])) (y := (fcd Tryz.f28 [1, 1, 1, 1, 0, 1, 0, 0, 1, 0, 1, 1, 1, 1])) ?_
                refine WA_seq (x := (fcd Tryz.f28 [1, 1, 1, 1, 0, 1, 0, 0, 1, 0, 1, 1, 1, 0, 0])) (y := (fcd Tryz.f28 [1, 1, 1, 1, 0, 1, 0, 0, 1, 0, 1, 1, 1, 0, 1])) ?_
                refine V_regionXN Γ Δ [] [0, 2, 4, 5, 6, 7, 8, 9, 10, 11, 12, 13, 17, 22, 51, 76, 115] (evsB ?_)
                all_goals (try with_reducible (repeat' (first | apply And.intro | intro _)))
                all_goals (try (first | with_reducible refine wa_id ?_ | exact True.intro | exact eqrw_fn _ _ | omega | exact empty_fn ⟨_, _, _, _⟩ | exact eqrw_fn _ _ | exact Fn.nil0 2 (eqrw_fn [] _)))
                refine V_cond (evs ?_)
                refine ⟨fun hc => hc.elim, ?_⟩
                refine WA_skip ?_
                refine V_draw Γ [] [0, 2, 4, 5, 6, 7, 8, 9, 10, 11, 12, 13, 17, 22, 51, 76, 115] mixed (by kernel_rfl) (evs ?_)
                have hq := wd_at hw ‹(i : Int) < _›
                (try simp (maxSteps := 10000000) (disch := omega) only [w64, toNs, toNp1])
                all_goals (try with_reducible (repeat' (first | apply And.intro | intro _)))
                all_goals (try (first | with_reducible refine wa_id ?_ | exact True.intro | omega | exact empty_fn ⟨_, _, _, _⟩ | exact eqrw_fn _ _ | exact Fn.nil0 2 (eqrw_fn [] _)))
                refine V_next [(20000, some 20001)] (j, some ⟨(a.getD i zR).y, (a.getD i zR).h, cols a i j⟩) (evs ?_) ?_ ?_
                all_goals (try with_reducible (repeat' (first | apply And.intro | intro _)))
                all_goals (first | exact True.intro | omega | (first | rfl | (show RO a j (some _); exact rgN hO hJ (rge ‹_›) (rgs hc)) | (show RO a j (some _); exact rgN hO hJ (rge ‹_›) no_some)))
          · refine V_exit (evs ?_)
            refine WA_seq (x := (fcd Tryz.f28 [1, 1, 1, 1, 1, 0])) (y := (fcd Tryz.f28 [1, 1, 1, 1, 1, 1])) ?_
            refine V_regionX Γ Δ [] [0, 2, 4, 5, 6, 7, 8, 9, 10, 11, 12, 13, 17, 22, 51, 76, 115] (evs ?_)
            all_goals (try with_reducible (repeat' (first | apply And.intro | intro _)))
            all_goals (try (first | with_reducible refine wa_id ?_ | exact True.intro | omega | exact empty_fn ⟨_, _, _, _⟩ | exact eqrw_fn _ _ | exact Fn.nil0 2 (eqrw_fn [] _)))
            refine V_ret (evs ?_)
            first | exact True.intro | rfl | exact rg_bad ‹_› hc | exact rgI hw hO hJ (by omega) (by omega) hc | exact rgO hw hO hJ (rge ‹_›) (by simpa [sameL] using hc) | exact rgF hw hO hc
        · refine WA_seq (x := (fcd Tryz.f28 [1, 1, 1, 1, 0, 1, 0, 0, 0])) (y := (fcd Tryz.f28 [1, 1, 1, 1, 0, 1, 0, 0, 1])) ?_
          refine WA_seq (x := (fcd Tryz.f28 [1, 1, 1, 1, 0, 1, 0, 0, 0, 0])) (y := (fcd Tryz.f28 [1, 1, 1, 1, 0, 1, 0, 0, 0, 1])) ?_
          refine V_regionX Γ Δ [] [0, 2, 4, 5, 6, 7, 8, 9, 10, 11, 12, 13, 17, 22, 51, 76, 115] (evs ?_)
          all_goals (try with_reducible (repeat' (first | apply And.intro | intro _)))
          all_goals (try (first | with_reducible refine wa_id ?_ | exact True.intro | omega | exact empty_fn ⟨_, _, _, _⟩ | exact eqrw_fn _ _ | exact Fn.nil0 2 (eqrw_fn [] _)))
          have hle := hO.le
          have hne := ro_ne hO
          refine V_cond (evs ?_)
          refine ⟨fun hc => ?_, fun hc => ?_⟩
          · refine WA_skip ?_
            refine WA_block (c := (fcd Tryz.f28 [1, 1, 1, 1, 0, 1, 0, 0, 1, 0])) ?_
            refine WA_seq (x := (fcd Tryz.f28 [1, 1, 1, 1, 0, 1, 0, 0, 1, 0, 0])) (y := (fcd Tryz.f28 [1, 1, 1, 1, 0, 1, 0, 0, 1, 0, 1])) ?_
            refine V_regionX Γ Δ [] [0, 2, 4, 5, 6, 7, 8, 9, 10, 11, 12, 13, 17, 22, 51, 76, 115] (evs ?_)
            all_goals (try with_reducible (repeat' (first | apply And.intro | intro _)))
            all_goals (try (first | with_reducible refine wa_id ?_ | exact True.intro | omega | exact empty_fn ⟨_, _, _, _⟩ | exact eqrw_fn _ _ | exact Fn.nil0 2 (eqrw_fn [] _)))
            refine WA_seq (x := (fcd Tryz.f28 [1, 1, 1, 1, 0, 1, 0, 0, 1, 0, 1, 0])) (y := (fcd Tryz.f28 [1, 1, 1, 1, 0, 1, 0, 0, 1, 0, 1, 1])) ?_
            refine V_regionX Γ Δ [] [0, 2, 4, 5, 6, 7, 8, 9, 10, 11, 12, 13, 17, 22, 51, 76, 115] (evs ?_)
            have hq := wd_at hw ‹(i : Int) < _›
            (try simp (maxSteps := 10000000) (disch := omega) only [w64, toNs, toNp1])
            all_goals (try with_reducible (repeat' (first | apply And.intro | intro _)))
            all_goals (try (first | with_reducible refine wa_id ?_ | exact True.intro | omega | exact empty_fn ⟨_, _, _, _⟩ | exact eqrw_fn _ _ | exact Fn.nil0 2 (eqrw_fn [] _)))
            refine WA_seq (x := (fcd Tryz.f28 [1, 1, 1, 1, 0, 1, 0, 0, 1, 0, 1, 1, 0])) (y := (fcd Tryz.f28 [1, 1, 1, 1, 0, 1, 0, 0, 1, 0, 1, 1, 1])) ?_
            refine WA_seq (x := (fcd Tryz.f28 [1, 1, 1, 1, 0, 1, 0, 0, 1, 0, 1, 1, 0, 0])) (y := (fcd Tryz.f28 [1, 1, 1, 1, 0, 1, 0, 0, 1, 0, 1, 1, 0, 1])) ?_
            refine V_regionX Γ Δ [] [0, 2, 4, 5, 6, 7, 8, 9, 10, 11, 12, 13, 17, 22, 51, 76, 115] (evs ?_)
            all_goals (try with_reducible (repeat' (first | apply And.intro | intro _)))
            all_goals (try (first | with_reducible refine wa_id ?_ | exact True.intro | omega | exact empty_fn ⟨_, _, _, _⟩ | exact eqrw_fn _ _ | exact Fn.nil0 2 (eqrw_fn [] _)))
            refine WA_block (c := (fcd Tryz.f28 [1, 1, 1, 1, 0, 1, 0, 0, 1, 0, 1, 1, 0, 1, 0])) ?_
            refine V_loop (c := (fcd Tryz.f28 [1, 1, 1, 1, 0, 1, 0, 0, 1, 0, 1, 1, 0, 1, 0, 0])) (α := Nat) [2, 7, 9, 51, 76] [35, 95, 96] (fun j => [(7, .dat (.i (j : Int))), (9, .vw 20001 0 (cols a i j).length 2)]) (fun j => [(20001, some (true, .arr 65 2 ((cols a i j).map rnC)))]) (fun j => RCo a i j) (fun j => a.length - j) (i + 1) [(20001, some 35)] ?_ (evs ?_) ?_
            · exact rc_1 ‹_›
            · (try with_reducible (repeat' (first | apply And.intro | intro _)))
              all_goals (first | exact True.intro | omega | (first | rfl | (rw [cols_1 (by omega)]; rfl) | exact w64l ‹(i : Int) < _› ‹a.length ≤ 281474976710656›))
            · intro j hJ
              refine WA_seq (x := (fcd Tryz.f28 [1, 1, 1, 1, 0, 1, 0, 0, 1, 0, 1, 1, 0, 1, 0, 0, 0])) (y := (fcd Tryz.f28 [1, 1, 1, 1, 0, 1, 0, 0, 1, 0, 1, 1, 0, 1, 0, 0, 1])) ?_
              refine WA_seq (x := (fcd Tryz.f28 [1, 1, 1, 1, 0, 1, 0, 0, 1, 0, 1, 1, 0, 1, 0, 0, 0, 0])) (y := (fcd Tryz.f28 [1, 1, 1, 1, 0, 1, 0, 0, 1, 0, 1, 1, 0, 1, 0, 0, 0, 1])) ?_
              refine V_draw Γ [] [0, 2, 4, 5, 6, 7, 8, 9, 10, 11, 12, 13, 17, 22, 51, 76, 115] mixed (by kernel_rfl) (evs ?_)
              have hcl := cols_len (i := i) hJ.le
              have hlt := hJ.lt
              have hcb := cols_bd hw hJ
              all_goals (try with_reducible (repeat' (first | apply And.intro | intro _)))
              all_goals (try (first | with_reducible refine wa_id ?_ | exact True.intro | omega | exact empty_fn ⟨_, _, _, _⟩ | exact eqrw_fn _ _ | exact Fn.nil0 2 (eqrw_fn [] _)))
              refine V_cond (evs ?_)
              refine ⟨fun hc => ?_, fun hc => ?_⟩
              · refine WA_skip ?_
                refine WA_seq (x := (fcd Tryz.f28 [1, 1, 1, 1, 0, 1, 0, 0, 1, 0, 1, 1, 0, 1, 0, 0, 1, 0])) (y := (fcd Tryz.f28 [1, 1, 1, 1, 0, 1, 0, 0, 1, 0, 1, 1, 0, 1, 0, 0, 1, 1])) ?_
                refine WA_block (c := (fcd Tryz.f28 [1, 1, 1, 1, 0, 1, 0, 0, 1, 0, 1, 1, 0, 1, 0, 0, 1, 0, 0])) ?_
                refine WA_seq (x := (fcd Tryz.f28 [1, 1, 1, 1, 0, 1, 0, 0, 1, 0, 1, 1, 0, 1, 0, 0, 1, 0, 0, 0])) (y := (fcd Tryz.f28 [1, 1, 1, 1, 0, 1, 0, 0, 1, 0, 1, 1, 0, 1, 0, 0, 1, 0, 0, 1])) ?_
                refine WA_seq (x := (fcd Tryz.f28 [1, 1, 1, 1, 0, 1, 0, 0, 1, 0, 1, 1, 0, 1, 0, 0, 1, 0, 0, 0, 0])) (y := (fcd Tryz.f28 [1, 1, 1, 1, 0, 1, 0, 0, 1, 0, 1, 1, 0, 1, 0, 0, 1, 0, 0, 0, 1])) ?_
                refine V_draw Γ [] [0, 2, 4, 5, 6, 7, 8, 9, 10, 11, 12, 13, 17, 22, 51, 76, 115] mixed (by kernel_rfl) (evs ?_)
                (try simp (maxSteps := 10000000) (disch := omega) only [w64, toNs, toNp1])
                all_goals (try with_reducible (repeat' (first | apply And.intro | intro _)))
                all_goals (try (first | with_reducible refine wa_id ?_ | exact True.intro | omega | exact empty_fn ⟨_, _, _, _⟩ | exact eqrw_fn _ _ | exact Fn.nil0 2 (eqrw_fn [] _)))
                refine V_cond (evs ?_)
                refine ⟨fun hc => ?_, fun hc => ?_⟩
                · refine WA_seq (x := (fcd Tryz.f28 [1, 1, 1, 1, 0, 1, 0, 0, 1, 0, 1, 1, 0, 1, 0, 0, 1, 0, 0, 0, 1, 0, 0])) (y := (fcd Tryz.f28 [1, 1, 1, 1, 0, 1, 0, 0, 1, 0, 1, 1, 0, 1, 0, 0, 1, 0, 0, 0, 1, 0, 1])) ?_
                  refine V_regionX Γ Δ [] [0, 2, 4, 5, 6, 7, 8, 9, 10, 11, 12, 13, 17, 22, 51, 76, 115] (evs ?_)
                  all_goals (try with_reducible (repeat' (first | apply And.intro | intro _)))
                  all_goals (try (first | with_reducible refine wa_id ?_ | exact True.intro | omega | exact empty_fn ⟨_, _, _, _⟩ | exact eqrw_fn _ _ | exact Fn.nil0 2 (eqrw_fn [] _)))
                  refine V_ret (evs ?_)
                  first | exact True.intro | rfl | exact rg_bad ‹_› hc | exact rgI hw hO hJ (by omega) (by omega) hc | exact rgO hw hO hJ (rge ‹_›) (by simpa [sameL] using hc) | exact rgF hw hO hc
                · refine WA_skip ?_
                  refine V_draw Γ [] [0, 2, 4, 5, 6, 7, 8, 9, 10, 11, 12, 13, 17, 22, 51, 76, 115] mixed (by kernel_rfl) (evs ?_)
                  have hq2 := wd_at hw (k := j) (by omega)
                  (try simp (maxSteps := 10000000) (disch := omega) only [w64, toNs, toNp1])
                  all_goals (try with_reducible (repeat' (first | apply And.intro | intro _)))
                  all_goals (try (first | with_reducible refine wa_id ?_ | exact True.intro | omega | exact empty_fn ⟨_, _, _, _⟩ | exact eqrw_fn _ _ | exact Fn.nil0 2 (eqrw_fn [] _)))
                  refine V_regionX Γ Δ [] [0, 2, 4, 5, 6, 7, 8, 9, 10, 11, 12, 13, 17, 22, 51, 76, 115] (evs ?_)
                  all_goals (try with_reducible (repeat' (first | apply And.intro | intro _)))
                  all_goals (try (first | with_reducible refine wa_id ?_ | exact True.intro | omega | exact empty_fn ⟨_, _, _, _⟩ | exact eqrw_fn _ _ | exact Fn.nil0 2 (eqrw_fn [] _)))
                  refine V_next [(20001, some 96)] (j + 1) (evs ?_) ?_ ?_
                  all_goals (try with_reducible (repeat' (first | apply And.intro | intro _)))
                  all_goals (first | exact True.intro | omega | (first | exact w64l (n := a.length) (by omega) ‹a.length ≤ 281474976710656› | (rw [cols_s (by omega) (by omega), List.map_append]; rfl) | (rw [cols_s (by omega) (by omega), List.length_append]; rfl) | exact rc_s hJ (by omega) (by omega) hc.1 (by omega)))
              · refine V_exit (evs ?_)
                refine WA_seq (x := (fcd Tryz.f28 [1, 1, 1, 1, 0, 1, 0, 0, 1, 0, 1, 1, 1, 0])) (y := (fcd Tryz.f28 [1, 1, 1, 1, 0, 1, 0, 0, 1, 0, 1, 1, 1, 1])) ?_
                refine WA_seq (x := (fcd Tryz.f28 [1, 1, 1, 1, 0, 1, 0, 0, 1, 0, 1, 1, 1, 0, 0])) (y := (fcd Tryz.f28 [1, 1, 1, 1, 0, 1, 0, 0, 1, 0, 1, 1, 1, 0, 1])) ?_
                refine V_regionXN Γ Δ [] [0, 2, 4, 5, 6, 7, 8, 9, 10, 11, 12, 13, 17, 22, 51, 76, 115] (evsB ?_)
                all_goals (try with_reducible (repeat' (first | apply And.intro | intro _)))
                all_goals (try (first | with_reducible refine wa_id ?_ | exact True.intro | exact eqrw_fn _ _ | omega | exact empty_fn ⟨_, _, _, _⟩ | exact eqrw_fn _ _ | exact Fn.nil0 2 (eqrw_fn [] _)))
                refine V_cond (evs ?_)
                refine ⟨fun hc => ?_, fun hc => ?_⟩
                · refine WA_seq (x := (fcd Tryz.f28 [1, 1, 1, 1, 0, 1, 0, 0, 1, 0, 1, 1, 1, 0, 1, 0, 0])) (y := (fcd Tryz.f28 [1, 1, 1, 1, 0, 1, 0, 0, 1, 0, 1, 1, 1, 0, 1, 0, 1])) ?_
                  refine V_regionX Γ Δ [] [0, 2, 4, 5, 6, 7, 8, 9, 10, 11, 12, 13, 17, 22, 51, 76, 115] (evs ?_)
                  all_goals (try with_reducible (repeat' (first | apply And.intro | intro _)))
                  all_goals (try (first | with_reducible refine wa_id ?_ | exact True.intro | omega | exact empty_fn ⟨_, _, _, _⟩ | exact eqrw_fn _ _ | exact Fn.nil0 2 (eqrw_fn [] _)))
                  refine V_ret (evs ?_)
                  first | exact True.intro | rfl | exact rg_bad ‹_› hc | exact rgI hw hO hJ (by omega) (by omega) hc | exact rgO hw hO hJ (rge ‹_›) (by simpa [sameL] using hc) | exact rgF hw hO hc
                · refine WA_skip ?_
                  refine V_draw Γ [] [0, 2, 4, 5, 6, 7, 8, 9, 10, 11, 12, 13, 17, 22, 51, 76, 115] mixed (by kernel_rfl) (evs ?_)
                  have hq := wd_at hw ‹(i : Int) < _›
                  (try simp (maxSteps := 10000000) (disch := omega) only [w64, toNs, toNp1])
                  all_goals (try with_reducible (repeat' (first | apply And.intro | intro _)))
                  all_goals (try (first | with_reducible refine wa_id ?_ | exact True.intro | omega | exact empty_fn ⟨_, _, _, _⟩ | exact eqrw_fn _ _ | exact Fn.nil0 2 (eqrw_fn [] _)))
                  refine V_next [(20000, some 20001)] (j, some ⟨(a.getD i zR).y, (a.getD i zR).h, cols a i j⟩) (evs ?_) ?_ ?_
                  all_goals (try with_reducible (repeat' (first | apply And.intro | intro _)))
                  all_goals (first | exact True.intro | omega | (first | rfl | (show RO a j (some _); exact rgN hO hJ (rge ‹_›) (rgs hc)) | (show RO a j (some _); exact rgN hO hJ (rge ‹_›) no_some)))
          · refine V_exit (evs ?_)
            refine WA_seq (x := (fcd Tryz.f28 [1, 1, 1, 1, 1, 0])) (y := (fcd Tryz.f28 [1, 1, 1, 1, 1, 1])) ?_
            refine V_regionX Γ Δ [] [0, 2, 4, 5, 6, 7, 8, 9, 10, 11, 12, 13, 17, 22, 51, 76, 115] (evs ?_)
            all_goals (try with_reducible (repeat' (first | apply And.intro | intro _)))
            all_goals (try (first | with_reducible refine wa_id ?_ | exact True.intro | omega | exact empty_fn ⟨_, _, _, _⟩ | exact eqrw_fn _ _ | exact Fn.nil0 2 (eqrw_fn [] _)))
            refine V_ret (evs ?_)
            first | exact True.intro | rfl | exact rg_bad ‹_› hc | exact rgI hw hO hJ (by omega) (by omega) hc | exact rgO hw hO hJ (rge ‹_›) (by simpa [sameL] using hc) | exact rgF hw hO hc

end Go.S03

