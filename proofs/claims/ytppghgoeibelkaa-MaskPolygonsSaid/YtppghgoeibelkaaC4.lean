import Derived.Test.YtppghgoeibelkaaC3
set_option linter.unusedSimpArgs false
set_option linter.unusedVariables false
namespace Go.S23
open Go.RowKit Go.Proofs Go.Eng Go.Rect
/-- imageeditor/imageeditorref20.Mask -/
theorem rmask_fn (ps : List (List Pt)) (rule : Int) (r : Rc) : Eng.Fn Try.prog 77 [.sl 1 (ps.map plyC), .i rule, rcD r] (.tup [.agg [.dat (.i (maskR ps rule r).w), .dat (.i (maskR ps rule r).h), .own 3 1 ((maskR ps rule r).v.map iC)], .dat (.i (maskE ps rule r))]) := by
  refine Eng.Fn.by (fn := Try.f77) 69 [.cell 6 24, .tmp 7] Try.func77 rfl Try.ntmps77 rfl (by simp) fun w0 => ?_
  refine WA_seq (x := (fcd Try.f77 [0])) (y := (fcd Try.f77 [1])) ?_
  refine V_regionX Γ Δ [] [0, 1, 2, 5, 6, 7, 8, 9, 10, 11, 16, 21, 30, 33, 43, 49] (evs ?_)
  all_goals (try with_reducible (repeat' (first | apply And.intro | intro _)))
  all_goals (try (first | with_reducible refine wa_id ?_ | exact True.intro | omega | exact yx_b2 ha he ‹(y : Int) < _› ‹(x : Int) < _›))
  refine WA_seq (x := (fcd Try.f77 [1, 0])) (y := (fcd Try.f77 [1, 1])) ?_
  refine WA_seq (x := (fcd Try.f77 [1, 0, 0])) (y := (fcd Try.f77 [1, 0, 1])) ?_
  refine V_regionX Γ Δ [] [0, 1, 2, 5, 6, 7, 8, 9, 10, 11, 16, 21, 30, 33, 43, 49] (evs ?_)
  all_goals (try with_reducible (repeat' (first | apply And.intro | intro _)))
  all_goals (try (first | with_reducible refine wa_id ?_ | exact True.intro | exact rcheck_fn _ _ | omega | exact yx_b2 ha he ‹(y : Int) < _› ‹(x : Int) < _›))
  refine WA_seq (x := (fcd Try.f77 [1, 0, 1, 0])) (y := (fcd Try.f77 [1, 0, 1, 1])) ?_
  refine V_regionX Γ Δ [] [0, 1, 2, 5, 6, 7, 8, 9, 10, 11, 16, 21, 30, 33, 43, 49] (evs ?_)
  all_goals (try with_reducible (repeat' (first | apply And.intro | intro _)))
  all_goals (try (first | with_reducible refine wa_id ?_ | exact True.intro | omega | exact yx_b2 ha he ‹(y : Int) < _› ‹(x : Int) < _›))
  refine V_cond (evs ?_)
  refine ⟨fun hc => ?_, fun hc => ?_⟩
  · refine WA_seq (x := (fcd Try.f77 [1, 0, 1, 1, 0, 0])) (y := (fcd Try.f77 [1, 0, 1, 1, 0, 1])) ?_
    refine V_regionX Γ Δ [] [0, 1, 2, 5, 6, 7, 8, 9, 10, 11, 16, 21, 30, 33, 43, 49] (evs ?_)
    all_goals (try with_reducible (repeat' (first | apply And.intro | intro _)))
    all_goals (try (first | with_reducible refine wa_id ?_ | exact True.intro | omega | exact yx_b2 ha he ‹(y : Int) < _› ‹(x : Int) < _›))
    refine V_ret (evs ?_)
    first | exact bk0 _ (mkE1 hc) | exact bk0 _ (rm1 ‹_› hc) | exact bk0 _ (rm2 ‹_› ‹_› hc) | exact bk0 _ (mkE3 ‹_› (area0 ‹_› ‹_›) hc) | exact bk _ (rm4 hk ha he hY hc)
  · refine WA_skip ?_
    refine WA_seq (x := (fcd Try.f77 [1, 1, 0])) (y := (fcd Try.f77 [1, 1, 1])) ?_
    refine WA_seq (x := (fcd Try.f77 [1, 1, 0, 0])) (y := (fcd Try.f77 [1, 1, 0, 1])) ?_
    refine V_regionX Γ Δ [] [0, 1, 2, 5, 6, 7, 8, 9, 10, 11, 16, 21, 30, 33, 43, 49] (evs ?_)
    all_goals (try with_reducible (repeat' (first | apply And.intro | intro _)))
    all_goals (try (first | with_reducible refine wa_id ?_ | exact True.intro | exact rvalid_fn _ | omega | exact yx_b2 ha he ‹(y : Int) < _› ‹(x : Int) < _›))
    refine V_cond (evs ?_)
    refine ⟨fun hc => ?_, fun hc => ?_⟩
    · refine WA_seq (x := (fcd Try.f77 [1, 1, 0, 1, 0, 0])) (y := (fcd Try.f77 [1, 1, 0, 1, 0, 1])) ?_
      refine V_regionX Γ Δ [] [0, 1, 2, 5, 6, 7, 8, 9, 10, 11, 16, 21, 30, 33, 43, 49] (evs ?_)
      all_goals (try with_reducible (repeat' (first | apply And.intro | intro _)))
      all_goals (try (first | with_reducible refine wa_id ?_ | exact True.intro | omega | exact yx_b2 ha he ‹(y : Int) < _› ‹(x : Int) < _›))
      refine V_ret (evs ?_)
      first | exact bk0 _ (mkE1 hc) | exact bk0 _ (rm1 ‹_› hc) | exact bk0 _ (rm2 ‹_› ‹_› hc) | exact bk0 _ (mkE3 ‹_› (area0 ‹_› ‹_›) hc) | exact bk _ (rm4 hk ha he hY hc)
    · refine WA_skip ?_
      refine WA_seq (x := (fcd Try.f77 [1, 1, 1, 0])) (y := (fcd Try.f77 [1, 1, 1, 1])) ?_
      refine WA_seq (x := (fcd Try.f77 [1, 1, 1, 0, 0])) (y := (fcd Try.f77 [1, 1, 1, 0, 1])) ?_
      refine V_regionX Γ Δ [] [0, 1, 2, 5, 6, 7, 8, 9, 10, 11, 16, 21, 30, 33, 43, 49] (evs ?_)
      all_goals (try with_reducible (repeat' (first | apply And.intro | intro _)))
      all_goals (try (first | with_reducible refine wa_id ?_ | exact True.intro | omega | exact yx_b2 ha he ‹(y : Int) < _› ‹(x : Int) < _›))
      refine V_cond (evs ?_)
      refine ⟨fun hc => ?_, fun hc => ?_⟩
      · refine WA_seq (x := (fcd Try.f77 [1, 1, 1, 0, 1, 0, 0])) (y := (fcd Try.f77 [1, 1, 1, 0, 1, 0, 1])) ?_
        refine V_regionX Γ Δ [] [0, 1, 2, 5, 6, 7, 8, 9, 10, 11, 16, 21, 30, 33, 43, 49] (evs ?_)
        all_goals (try with_reducible (repeat' (first | apply And.intro | intro _)))
        all_goals (try (first | with_reducible refine wa_id ?_ | exact True.intro | omega | exact yx_b2 ha he ‹(y : Int) < _› ‹(x : Int) < _›))
        refine V_ret (evs ?_)
        first | exact bk0 _ (mkE1 hc) | exact bk0 _ (rm1 ‹_› hc) | exact bk0 _ (rm2 ‹_› ‹_› hc) | exact bk0 _ (mkE3 ‹_› (area0 ‹_› ‹_›) hc) | exact bk _ (rm4 hk ha he hY hc)
      · refine WA_skip ?_
        refine WA_seq (x := (fcd Try.f77 [1, 1, 1, 1, 0])) (y := (fcd Try.f77 [1, 1, 1, 1, 1])) ?_
        refine WA_seq (x := (fcd Try.f77 [1, 1, 1, 1, 0, 0])) (y := (fcd Try.f77 [1, 1, 1, 1, 0, 1])) ?_
        refine V_regionX Γ Δ [] [0, 1, 2, 5, 6, 7, 8, 9, 10, 11, 16, 21, 30, 33, 43, 49] (evs ?_)
        all_goals (try with_reducible (repeat' (first | apply And.intro | intro _)))
        all_goals (try (first | with_reducible refine wa_id ?_ | exact True.intro | exact rempty_fn _ | omega | exact yx_b2 ha he ‹(y : Int) < _› ‹(x : Int) < _›))
        refine V_cond (evs ?_)
        refine ⟨fun hc => ?_, fun hc => ?_⟩
        · refine WA_seq (x := (fcd Try.f77 [1, 1, 1, 1, 0, 1, 0, 0])) (y := (fcd Try.f77 [1, 1, 1, 1, 0, 1, 0, 1])) ?_
          refine V_regionX Γ Δ [] [0, 1, 2, 5, 6, 7, 8, 9, 10, 11, 16, 21, 30, 33, 43, 49] (evs ?_)
          all_goals (try with_reducible (repeat' (first | apply And.intro | intro _)))
          all_goals (try (first | with_reducible refine wa_id ?_ | exact True.intro | omega | exact yx_b2 ha he ‹(y : Int) < _› ‹(x : Int) < _›))
          refine V_ret (evs ?_)
          first | exact bk0 _ (mkE1 hc) | exact bk0 _ (rm1 ‹_› hc) | exact bk0 _ (rm2 ‹_› ‹_› hc) | exact bk0 _ (mkE3 ‹_› (area0 ‹_› ‹_›) hc) | exact bk _ (rm4 hk ha he hY hc)
        · refine WA_skip ?_
          refine WA_seq (x := (fcd Try.f77 [1, 1, 1, 1, 1, 0])) (y := (fcd Try.f77 [1, 1, 1, 1, 1, 1])) ?_
          refine V_regionX Γ Δ [] [0, 1, 2, 5, 6, 7, 8, 9, 10, 11, 16, 21, 30, 33, 43, 49] (evs ?_)
          all_goals (try with_reducible (repeat' (first | apply And.intro | intro _)))
          all_goals (try (first | with_reducible refine wa_id ?_ | exact True.intro | omega | exact yx_b2 ha he ‹(y : Int) < _› ‹(x : Int) < _›))
          have hk := ‹checkE ps rule = 0›
          have ha := area0 ‹validB r = true› ‹_›
          have he := ‹emptyB r = false›
          have hs := area_sz ha he
          refine WA_seq (x := (fcd Try.f77 [1, 1, 1, 1, 1, 1, 0])) (y := (fcd Try.f77 [1, 1, 1, 1, 1, 1, 1])) ?_
          refine WA_seq (x := (fcd Try.f77 [1, 1, 1, 1, 1, 1, 0, 0])) (y := (fcd Try.f77 [1, 1, 1, 1, 1, 1, 0, 1])) ?_
          refine V_regionX Γ Δ [] [0, 1, 2, 5, 6, 7, 8, 9, 10, 11, 16, 21, 30, 33, 43, 49] (evs ?_)
          all_goals (try with_reducible (repeat' (first | apply And.intro | intro _)))
          all_goals (try (first | with_reducible refine wa_id ?_ | exact True.intro | omega | exact yx_b2 ha he ‹(y : Int) < _› ‹(x : Int) < _›))
          refine WA_block (c := (fcd Try.f77 [1, 1, 1, 1, 1, 1, 0, 1, 0])) ?_
          refine V_loop (c := (fcd Try.f77 [1, 1, 1, 1, 1, 1, 0, 1, 0, 0])) (α := Nat) [10, 11, 43, 49] [9, 65, 66, 16400, 16401, 16402, 16403] (fun y => [(10, .dat (.i (y : Int)))]) (fun y => [(20000, some (true, .arr 3 1 ((VL ps rule r (y * r.w.toNat)).map iC))), (9, some (true, .box 24 [.dat (.i r.w), .dat (.i r.h), .vw 20000 0 (y * r.w.toNat) 1]))]) (fun y => y ≤ r.h.toNat) (fun y => r.h.toNat - y) 0 [(20000, none)] ?_ (evs ?_) ?_
          · exact Nat.zero_le _
          · (try with_reducible (repeat' (first | apply And.intro | intro _)))
            all_goals (first | exact True.intro | omega | (first | rfl | simp [VL]))
          · intro y hY
            refine WA_seq (x := (fcd Try.f77 [1, 1, 1, 1, 1, 1, 0, 1, 0, 0, 0])) (y := (fcd Try.f77 [1, 1, 1, 1, 1, 1, 0, 1, 0, 0, 1])) ?_
            refine WA_seq (x := (fcd Try.f77 [1, 1, 1, 1, 1, 1, 0, 1, 0, 0, 0, 0])) (y := (fcd Try.f77 [1, 1, 1, 1, 1, 1, 0, 1, 0, 0, 0, 1])) ?_
            refine V_regionX Γ Δ [] [0, 1, 2, 5, 6, 7, 8, 9, 10, 11, 16, 21, 30, 33, 43, 49] (evs ?_)
            all_goals (try with_reducible (repeat' (first | apply And.intro | intro _)))
            all_goals (try (first | with_reducible refine wa_id ?_ | exact True.intro | omega | exact yx_b2 ha he ‹(y : Int) < _› ‹(x : Int) < _›))
            refine V_cond (evs ?_)
            refine ⟨fun hc => ?_, fun hc => ?_⟩
            · refine WA_skip ?_
              refine WA_seq (x := (fcd Try.f77 [1, 1, 1, 1, 1, 1, 0, 1, 0, 0, 1, 0])) (y := (fcd Try.f77 [1, 1, 1, 1, 1, 1, 0, 1, 0, 0, 1, 1])) ?_
              refine WA_block (c := (fcd Try.f77 [1, 1, 1, 1, 1, 1, 0, 1, 0, 0, 1, 0, 0])) ?_
              refine WA_seq (x := (fcd Try.f77 [1, 1, 1, 1, 1, 1, 0, 1, 0, 0, 1, 0, 0, 0])) (y := (fcd Try.f77 [1, 1, 1, 1, 1, 1, 0, 1, 0, 0, 1, 0, 0, 1])) ?_
              refine V_regionX Γ Δ [] [0, 1, 2, 5, 6, 7, 8, 9, 10, 11, 16, 21, 30, 33, 43, 49] (evs ?_)
              all_goals (try with_reducible (repeat' (first | apply And.intro | intro _)))
              all_goals (try (first | with_reducible refine wa_id ?_ | exact True.intro | omega | exact yx_b2 ha he ‹(y : Int) < _› ‹(x : Int) < _›))
              refine WA_block (c := (fcd Try.f77 [1, 1, 1, 1, 1, 1, 0, 1, 0, 0, 1, 0, 0, 1, 0])) ?_
              refine V_loop (c := (fcd Try.f77 [1, 1, 1, 1, 1, 1, 0, 1, 0, 0, 1, 0, 0, 1, 0, 0])) (α := Nat) [11, 49] [9, 65, 66, 16400, 16401, 16402, 16403, 20000] (fun x => [(11, .dat (.i (x : Int)))]) (fun x => [(20001, some (true, .arr 3 1 ((VL ps rule r (y * r.w.toNat + x)).map iC))), (9, some (true, .box 24 [.dat (.i r.w), .dat (.i r.h), .vw 20001 0 (y * r.w.toNat + x) 1]))]) (fun x => x ≤ r.w.toNat) (fun x => r.w.toNat - x) 0 [(20001, some 20000)] ?_ (evs ?_) ?_
              · exact Nat.zero_le _
              · (try with_reducible (repeat' (first | apply And.intro | intro _)))
                all_goals (first | exact True.intro | omega | (first | rfl | simp [VL]))
              · intro x hX
                refine WA_seq (x := (fcd Try.f77 [1, 1, 1, 1, 1, 1, 0, 1, 0, 0, 1, 0, 0, 1, 0, 0, 0])) (y := (fcd Try.f77 [1, 1, 1, 1, 1, 1, 0, 1, 0, 0, 1, 0, 0, 1, 0, 0, 1])) ?_
                refine WA_seq (x := (fcd Try.f77 [1, 1, 1, 1, 1, 1, 0, 1, 0, 0, 1, 0, 0, 1, 0, 0, 0, 0])) (y := (fcd Try.f77 [1, 1, 1, 1, 1, 1, 0, 1, 0, 0, 1, 0, 0, 1, 0, 0, 0, 1])) ?_
                refine V_regionX Γ Δ [] [0, 1, 2, 5, 6, 7, 8, 9, 10, 11, 16, 21, 30, 33, 43, 49] (evs ?_)
                all_goals (try with_reducible (repeat' (first | apply And.intro | intro _)))
                all_goals (try (first | with_reducible refine wa_id ?_ | exact True.intro | omega | exact yx_b2 ha he ‹(y : Int) < _› ‹(x : Int) < _›))
                refine V_cond (evs ?_)
                refine ⟨fun hc => ?_, fun hc => ?_⟩
                · refine WA_skip ?_
                  refine WA_seq (x := (fcd Try.f77 [1, 1, 1, 1, 1, 1, 0, 1, 0, 0, 1, 0, 0, 1, 0, 0, 1, 0])) (y := (fcd Try.f77 [1, 1, 1, 1, 1, 1, 0, 1, 0, 0, 1, 0, 0, 1, 0, 0, 1, 1])) ?_
                  refine WA_block (c := (fcd Try.f77 [1, 1, 1, 1, 1, 1, 0, 1, 0, 0, 1, 0, 0, 1, 0, 0, 1, 0, 0])) ?_
                  refine V_draw Γ [] [0, 1, 2, 5, 6, 7, 8, 9, 10, 11, 16, 21, 30, 33, 43, 49] mixed (by kernel_rfl) (evs ?_)
                  have hs := area_sz ha he
                  have hv := (check_any hk).1
                  simp (disch := omega) only [w64]
                  all_goals (try with_reducible (repeat' (first | apply And.intro | intro _)))
                  all_goals (try (first | with_reducible refine wa_id ?_ | exact True.intro | exact value_fn _ _ _ _ hv (by omega) (by omega) | omega | exact yx_b2 ha he ‹(y : Int) < _› ‹(x : Int) < _›))
                  refine V_regionX Γ Δ [] [0, 1, 2, 5, 6, 7, 8, 9, 10, 11, 16, 21, 30, 33, 43, 49] (evs ?_)
                  all_goals (try with_reducible (repeat' (first | apply And.intro | intro _)))
                  all_goals (try (first | with_reducible refine wa_id ?_ | exact True.intro | omega | exact yx_b2 ha he ‹(y : Int) < _› ‹(x : Int) < _›))
                  refine V_next [(20001, some 66)] (x + 1) (evs ?_) ?_ ?_
                  all_goals (try with_reducible (repeat' (first | apply And.intro | intro _)))
                  all_goals (first | exact True.intro | omega | (first | exact w64l (n := 256) (by omega) (by omega) | exact v_next ‹(x : Int) < _›))
                · refine V_exit (evs ?_)
                  refine V_regionX Γ Δ [] [0, 1, 2, 5, 6, 7, 8, 9, 10, 11, 16, 21, 30, 33, 43, 49] (evs ?_)
                  all_goals (try with_reducible (repeat' (first | apply And.intro | intro _)))
                  all_goals (try (first | with_reducible refine wa_id ?_ | exact True.intro | omega | exact yx_b2 ha he ‹(y : Int) < _› ‹(x : Int) < _›))
                  refine V_next [(20000, some 20001)] (y + 1) (evs ?_) ?_ ?_
                  all_goals (try with_reducible (repeat' (first | apply And.intro | intro _)))
                  all_goals (first | exact True.intro | omega | (first | exact w64l (n := 256) (by omega) (by omega) | (rw [row_end hX hc])))
            · refine V_exit (evs ?_)
              refine WA_seq (x := (fcd Try.f77 [1, 1, 1, 1, 1, 1, 1, 0])) (y := (fcd Try.f77 [1, 1, 1, 1, 1, 1, 1, 1])) ?_
              refine V_regionX Γ Δ [] [0, 1, 2, 5, 6, 7, 8, 9, 10, 11, 16, 21, 30, 33, 43, 49] (evs ?_)
              all_goals (try with_reducible (repeat' (first | apply And.intro | intro _)))
              all_goals (try (first | with_reducible refine wa_id ?_ | exact True.intro | omega | exact yx_b2 ha he ‹(y : Int) < _› ‹(x : Int) < _›))
              refine V_ret (evs ?_)
              first | exact bk0 _ (mkE1 hc) | exact bk0 _ (rm1 ‹_› hc) | exact bk0 _ (rm2 ‹_› ‹_› hc) | exact bk0 _ (mkE3 ‹_› (area0 ‹_› ‹_›) hc) | exact bk _ (rm4 hk ha he hY hc)

end Go.S23

