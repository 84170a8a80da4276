import Derived.Test.YtppghgoeibelkaaC5
set_option linter.unusedSimpArgs false
set_option linter.unusedVariables false
namespace Go.S23
open Go.RowKit Go.Proofs Go.Eng Go.Rect
/-- imageeditor/cover.wind -/
theorem wind_fn (l : List Ed) (y x0 : Int) (ts : List Int) (n : Nat) (hl : ∀ s ∈ l, EdOk s) (hy : XOk y) (hx : XOk x0) (he : ts.length = n) (hn : 0 < n) (hm : n ≤ 281474976710656) : Eng.FnX Try.prog 96 [.ro (.dat (.sl 4 (l.map edC))), .ro (.dat (.i y)), .ro (.dat (.i x0)), .mu (.arr 3 1 (ts.map iC)) (.arr 3 1 ((windL l y x0 n).map iC)) 0 n 1] (.dat (.b (windB l y))) := by
  subst he
  refine Eng.FnX.by (fn := Try.f96) 71 [.tmp 8] Try.func96 rfl Try.ntmps96 rfl (by simp) (by simp [PX.plains, PX.plain, Ent.isArr, Ent.plain, plI]) rfl fun w0 X u => ?_
  refine WA_seq (x := (fcd Try.f96 [0])) (y := (fcd Try.f96 [1])) ?_
  refine V_regionX Γ Δ [] [0, 1, 2, 3, 8, 9, 11, 12, 14, 15, 16, 17, 39, 46] (evs ?_)
  all_goals (try with_reducible (repeat' (first | apply And.intro | intro _)))
  all_goals (try (first | with_reducible refine wa_id ?_ | exact True.intro | omega | exact pos_lt _ _ _ hn))
  refine WA_seq (x := (fcd Try.f96 [1, 0])) (y := (fcd Try.f96 [1, 1])) ?_
  refine V_regionX Γ Δ [] [0, 1, 2, 3, 8, 9, 11, 12, 14, 15, 16, 17, 39, 46] (evs ?_)
  all_goals (try with_reducible (repeat' (first | apply And.intro | intro _)))
  all_goals (try (first | with_reducible refine wa_id ?_ | exact True.intro | omega | exact pos_lt _ _ _ hn))
  simp only [clr0]
  refine WA_seq (x := (fcd Try.f96 [1, 1, 0])) (y := (fcd Try.f96 [1, 1, 1])) ?_
  refine V_regionX Γ Δ [] [0, 1, 2, 3, 8, 9, 11, 12, 14, 15, 16, 17, 39, 46] (evs ?_)
  all_goals (try with_reducible (repeat' (first | apply And.intro | intro _)))
  all_goals (try (first | with_reducible refine wa_id ?_ | exact True.intro | omega | exact pos_lt _ _ _ hn))
  refine WA_seq (x := (fcd Try.f96 [1, 1, 1, 0])) (y := (fcd Try.f96 [1, 1, 1, 1])) ?_
  refine WA_seq (x := (fcd Try.f96 [1, 1, 1, 0, 0])) (y := (fcd Try.f96 [1, 1, 1, 0, 1])) ?_
  refine V_regionX Γ Δ [] [0, 1, 2, 3, 8, 9, 11, 12, 14, 15, 16, 17, 39, 46] (evs ?_)
  all_goals (try with_reducible (repeat' (first | apply And.intro | intro _)))
  all_goals (try (first | with_reducible refine wa_id ?_ | exact True.intro | omega | exact pos_lt _ _ _ hn))
  refine WA_block (c := (fcd Try.f96 [1, 1, 1, 0, 1, 0])) ?_
  refine V_loop (c := (fcd Try.f96 [1, 1, 1, 0, 1, 0, 0])) (α := Nat) [9, 11, 12, 16, 17, 39, 46] [11, 15600, 15601, 15602, 15603, 30003] (fun k => [(16, .dat (.i (k : Int))), (9, .dat (.b (windB (l.take k) y)))]) (fun k => [(30003, some (true, .arr 3 1 ((windK l y x0 ts.length k).map iC)))]) (fun k => k ≤ l.length) (fun k => l.length - k) 0 [] ?_ (evs ?_) ?_
  · exact Nat.zero_le _
  · (try with_reducible (repeat' (first | apply And.intro | intro _)))
    all_goals (first | exact True.intro | omega | (first | exact wk0 _ _ _ _ | rfl))
  · intro k hI
    refine WA_seq (x := (fcd Try.f96 [1, 1, 1, 0, 1, 0, 0, 0])) (y := (fcd Try.f96 [1, 1, 1, 0, 1, 0, 0, 1])) ?_
    refine V_regionX Γ Δ [] [0, 1, 2, 3, 8, 9, 11, 12, 14, 15, 16, 17, 39, 46] (evs ?_)
    all_goals (try with_reducible (repeat' (first | apply And.intro | intro _)))
    all_goals (try (first | with_reducible refine wa_id ?_ | exact True.intro | omega | exact pos_lt _ _ _ hn))
    refine WA_seq (x := (fcd Try.f96 [1, 1, 1, 0, 1, 0, 0, 1, 0])) (y := (fcd Try.f96 [1, 1, 1, 0, 1, 0, 0, 1, 1])) ?_
    refine V_cond (evs ?_)
    refine ⟨fun hc => ?_, fun hc => ?_⟩
    · refine WA_skip ?_
      refine WA_seq (x := (fcd Try.f96 [1, 1, 1, 0, 1, 0, 0, 1, 1, 0])) (y := (fcd Try.f96 [1, 1, 1, 0, 1, 0, 0, 1, 1, 1])) ?_
      refine WA_block (c := (fcd Try.f96 [1, 1, 1, 0, 1, 0, 0, 1, 1, 0, 0])) ?_
      refine WA_seq (x := (fcd Try.f96 [1, 1, 1, 0, 1, 0, 0, 1, 1, 0, 0, 0])) (y := (fcd Try.f96 [1, 1, 1, 0, 1, 0, 0, 1, 1, 0, 0, 1])) ?_
      refine V_regionX Γ Δ [] [0, 1, 2, 3, 8, 9, 11, 12, 14, 15, 16, 17, 39, 46] (evs ?_)
      all_goals (try with_reducible (repeat' (first | apply And.intro | intro _)))
      all_goals (try (first | with_reducible refine wa_id ?_ | exact True.intro | omega | exact pos_lt _ _ _ hn))
      refine WA_seq (x := (fcd Try.f96 [1, 1, 1, 0, 1, 0, 0, 1, 1, 0, 0, 1, 0])) (y := (fcd Try.f96 [1, 1, 1, 0, 1, 0, 0, 1, 1, 0, 0, 1, 1])) ?_
      refine WA_seq (x := (fcd Try.f96 [1, 1, 1, 0, 1, 0, 0, 1, 1, 0, 0, 1, 0, 0])) (y := (fcd Try.f96 [1, 1, 1, 0, 1, 0, 0, 1, 1, 0, 0, 1, 0, 1])) ?_
      refine V_regionX Γ Δ [] [0, 1, 2, 3, 8, 9, 11, 12, 14, 15, 16, 17, 39, 46] (evs ?_)
      all_goals (try with_reducible (repeat' (first | apply And.intro | intro _)))
      all_goals (try (first | with_reducible refine wa_id ?_ | exact True.intro | omega | exact pos_lt _ _ _ hn))
      refine V_cond (evs ?_)
      refine ⟨fun hc => ?_, fun hc => ?_⟩
      · refine V_exit (evs ?_)
        refine V_regionX Γ Δ [] [0, 1, 2, 3, 8, 9, 11, 12, 14, 15, 16, 17, 39, 46] (evs ?_)
        all_goals (try with_reducible (repeat' (first | apply And.intro | intro _)))
        all_goals (try (first | with_reducible refine wa_id ?_ | exact True.intro | omega | exact pos_lt _ _ _ hn))
        refine V_next [] (k + 1) (evs ?_) ?_ ?_
        all_goals (try with_reducible (repeat' (first | apply And.intro | intro _)))
        all_goals (first | exact True.intro | omega | (first | exact w64l ‹(k : Int) < _› ‹l.length ≤ 281474976710656› | (rw [(wk_off ‹(k : Int) < _› hc).1]) | exact (wk_off (x0 := x0) (n := ts.length) ‹(k : Int) < _› hc).2.symm | (rw [wk3 ‹(k : Int) < _› hon.1]) | exact hon.2.symm))
      · refine WA_skip ?_
        refine WA_seq (x := (fcd Try.f96 [1, 1, 1, 0, 1, 0, 0, 1, 1, 0, 0, 1, 1, 0])) (y := (fcd Try.f96 [1, 1, 1, 0, 1, 0, 0, 1, 1, 0, 0, 1, 1, 1])) ?_
        refine V_regionX Γ Δ [] [0, 1, 2, 3, 8, 9, 11, 12, 14, 15, 16, 17, 39, 46] (evs ?_)
        all_goals (try with_reducible (repeat' (first | apply And.intro | intro _)))
        all_goals (try (first | with_reducible refine wa_id ?_ | exact True.intro | omega | exact pos_lt _ _ _ hn))
        have hon := wk_on (x0 := x0) (n := ts.length) ‹(k : Int) < _› hc
        refine WA_seq (x := (fcd Try.f96 [1, 1, 1, 0, 1, 0, 0, 1, 1, 0, 0, 1, 1, 1, 0])) (y := (fcd Try.f96 [1, 1, 1, 0, 1, 0, 0, 1, 1, 0, 0, 1, 1, 1, 1])) ?_
        refine V_regionX Γ Δ [] [0, 1, 2, 3, 8, 9, 11, 12, 14, 15, 16, 17, 39, 46] (evs ?_)
        all_goals (try with_reducible (repeat' (first | apply And.intro | intro _)))
        all_goals (try (first | with_reducible refine wa_id ?_ | exact True.intro | omega | exact pos_lt _ _ _ hn))
        refine V_cut (x := (fcd Try.f96 [1, 1, 1, 0, 1, 0, 0, 1, 1, 0, 0, 1, 1, 1, 1, 0])) (y := (fcd Try.f96 [1, 1, 1, 0, 1, 0, 0, 1, 1, 0, 0, 1, 1, 1, 1, 1])) (α := Unit) [12, 46] [] (fun _ => [(12, .dat (.i (sgn (l.getD k zE))))]) (fun _ => []) (fun _ => True) ?_ ?_
        · refine WA_seq (x := (fcd Try.f96 [1, 1, 1, 0, 1, 0, 0, 1, 1, 0, 0, 1, 1, 1, 1, 0, 0])) (y := (fcd Try.f96 [1, 1, 1, 0, 1, 0, 0, 1, 1, 0, 0, 1, 1, 1, 1, 0, 1])) ?_
          refine V_regionX Γ Δ [] [0, 1, 2, 3, 8, 9, 11, 12, 14, 15, 16, 17, 39, 46] (evs ?_)
          all_goals (try with_reducible (repeat' (first | apply And.intro | intro _)))
          all_goals (try (first | with_reducible refine wa_id ?_ | exact True.intro | omega | exact pos_lt _ _ _ hn))
          refine V_cond (evs ?_)
          refine ⟨fun hc => ?_, fun hc => ?_⟩
          · refine V_regionX Γ Δ [] [0, 1, 2, 3, 8, 9, 11, 12, 14, 15, 16, 17, 39, 46] (evs ?_)
            all_goals (try with_reducible (repeat' (first | apply And.intro | intro _)))
            all_goals (try (first | with_reducible refine wa_id ?_ | exact True.intro | omega | exact pos_lt _ _ _ hn))
            refine V_jn [] () (evs ?_) ?_
            all_goals (try with_reducible (repeat' (first | apply And.intro | intro _)))
            all_goals (first | exact True.intro | omega | (first | exact sgn_a hc | exact sgn_b hc))
          · refine WA_skip ?_
            refine V_jn [] () (evs ?_) ?_
            all_goals (try with_reducible (repeat' (first | apply And.intro | intro _)))
            all_goals (first | exact True.intro | omega | (first | exact sgn_a hc | exact sgn_b hc))
        · intro _ hz
          refine WA_seq (x := (fcd Try.f96 [1, 1, 1, 0, 1, 0, 0, 1, 1, 0, 0, 1, 1, 1, 1, 1, 0])) (y := (fcd Try.f96 [1, 1, 1, 0, 1, 0, 0, 1, 1, 0, 0, 1, 1, 1, 1, 1, 1])) ?_
          refine V_regionX Γ Δ [] [0, 1, 2, 3, 8, 9, 11, 12, 14, 15, 16, 17, 39, 46] (evs ?_)
          simp only [wk1 hI ‹l.length ≤ 281474976710656›]
          all_goals (try with_reducible (repeat' (first | apply And.intro | intro _)))
          all_goals (try (first | with_reducible refine wa_id ?_ | exact True.intro | omega | exact pos_lt _ _ _ hn))
          refine V_regionX Γ Δ [] [0, 1, 2, 3, 8, 9, 11, 12, 14, 15, 16, 17, 39, 46] (evs ?_)
          have hs := mem_ok hl ‹(k : Int) < _›
          have hb := befI_bd hs hy
          have hx2 := hx
          unfold XOk at hx2
          simp (disch := omega) only [w64]
          simp only [posE, wk2 hI ‹l.length ≤ 281474976710656›]
          all_goals (try with_reducible (repeat' (first | apply And.intro | intro _)))
          all_goals (try (first | with_reducible refine wa_id ?_ | exact True.intro | exact before_fn ⟨⟨_, _⟩, ⟨_, _⟩⟩ _ hs hy | omega | exact pos_lt _ _ _ hn))
          refine V_regionX Γ Δ [] [0, 1, 2, 3, 8, 9, 11, 12, 14, 15, 16, 17, 39, 46] (evs ?_)
          all_goals (try with_reducible (repeat' (first | apply And.intro | intro _)))
          all_goals (try (first | with_reducible refine wa_id ?_ | exact True.intro | omega | exact pos_lt _ _ _ hn))
          refine V_next [] (k + 1) (evs ?_) ?_ ?_
          all_goals (try with_reducible (repeat' (first | apply And.intro | intro _)))
          all_goals (first | exact True.intro | omega | (first | exact w64l ‹(k : Int) < _› ‹l.length ≤ 281474976710656› | (rw [(wk_off ‹(k : Int) < _› hc).1]) | exact (wk_off (x0 := x0) (n := ts.length) ‹(k : Int) < _› hc).2.symm | (rw [wk3 ‹(k : Int) < _› hon.1]) | exact hon.2.symm))
    · refine V_exit (evs ?_)
      refine WA_seq (x := (fcd Try.f96 [1, 1, 1, 1, 0])) (y := (fcd Try.f96 [1, 1, 1, 1, 1])) ?_
      refine V_regionX Γ Δ [] [0, 1, 2, 3, 8, 9, 11, 12, 14, 15, 16, 17, 39, 46] (evs ?_)
      all_goals (try with_reducible (repeat' (first | apply And.intro | intro _)))
      all_goals (try (first | with_reducible refine wa_id ?_ | exact True.intro | omega | exact pos_lt _ _ _ hn))
      refine V_ret (evs ?_)
      exact ⟨windB_all hc, by rw [windK_all hc]⟩

end Go.S23

