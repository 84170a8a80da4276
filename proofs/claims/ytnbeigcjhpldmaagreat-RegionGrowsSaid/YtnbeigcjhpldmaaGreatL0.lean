import Derived.Test.YtnbeigcjhpldmaaGreatB13
import Derived.Test.YtnbeigcjhpldmaaGreatB14
import Derived.Test.YtnbeigcjhpldmaaGreatB15
import Derived.Test.YtnbeigcjhpldmaaGreatR2
set_option linter.unusedSimpArgs false
set_option linter.unusedVariables false
set_option linter.unusedSimpArgs false
set_option linter.unusedVariables false
namespace Go.S03
open Go.RowKit Go.Proofs Go.Eng Go.Rect
set_option maxHeartbeats 8000000 in
set_option maxRecDepth 100000 in
theorem awake_fn  : Eng.Fn Tryz.prog 9 [] (.dat (.b true)) := by
  refine Eng.Fn.by (fn := Tryz.f9) 108 [.tmp 0] Tryz.func9 rfl Tryz.ntmps9 rfl (by simp) fun w0 G0 => ?_
  refine WA_seq (x := (fcd Tryz.f9 [0])) (y := (fcd Tryz.f9 [1])) ?_
  refine V_regionX Γ Δ [] [0, 1, 2, 3, 4, 5, 6] (evs ?_)
  all_goals (try with_reducible (repeat' (first | apply And.intro | intro _)))
  all_goals (try (first | with_reducible refine wa_id ?_ | exact True.intro | omega | exact lbox_fn _ _ _ _ | exact of3_fn [⟨0, 0, 2, 2⟩, ⟨1, 1, 2, 2⟩] | exact minus_fn [⟨0, 0, 3, 3⟩] [⟨1, 1, 1, 1⟩] | exact tiles3_fn [⟨15, 0, 2, 1⟩] | exact lalike_fn _ [⟨0, 0, 2, 1⟩, ⟨0, 1, 3, 1⟩, ⟨1, 2, 2, 1⟩] | exact lalike_fn _ _ | exact lalike_fn _ [⟨1, 1, 1, 1⟩] | exact lalike_fn _ [⟨0, 0, 3, 1⟩, ⟨0, 1, 1, 1⟩, ⟨2, 1, 1, 1⟩, ⟨0, 2, 3, 1⟩] | exact lalike_fn _ [⟨-1, -1, 3, 3⟩] | exact union_fn [⟨0, 0, 2, 2⟩] [⟨1, 1, 2, 2⟩] | exact common_fn [⟨0, 0, 2, 2⟩] [⟨1, 1, 2, 2⟩] | exact right_fn _ | exact right_fn [⟨0, 0, 2, 2⟩, ⟨1, 1, 2, 2⟩] | exact area3_fn [⟨0, 0, 2, 2⟩, ⟨1, 1, 2, 2⟩] | exact box3_fn [⟨0, 0, 2, 2⟩, ⟨1, 1, 2, 2⟩] | exact has3_fn [⟨0, 0, 2, 2⟩] ⟨1, 0⟩ | exact has3_fn [⟨0, 0, 2, 2⟩] ⟨2, 0⟩ | exact grow3_fn [⟨0, 0, 1, 1⟩] 1 | (simp [aw1, aw2, aw3, aw4, aw5, aw6, aw7, aw8, aw9, aw10, aw11, aw12, sameL]; done)))
  refine WA_seq (x := (fcd Tryz.f9 [1, 0])) (y := (fcd Tryz.f9 [1, 1])) ?_
  refine V_regionX Γ Δ [] [0, 1, 2, 3, 4, 5, 6] (evs ?_)
  all_goals (try with_reducible (repeat' (first | apply And.intro | intro _)))
  all_goals (try (first | with_reducible refine wa_id ?_ | exact True.intro | exact lbox_fn _ _ _ _ | omega | exact lbox_fn _ _ _ _ | exact of3_fn [⟨0, 0, 2, 2⟩, ⟨1, 1, 2, 2⟩] | exact minus_fn [⟨0, 0, 3, 3⟩] [⟨1, 1, 1, 1⟩] | exact tiles3_fn [⟨15, 0, 2, 1⟩] | exact lalike_fn _ [⟨0, 0, 2, 1⟩, ⟨0, 1, 3, 1⟩, ⟨1, 2, 2, 1⟩] | exact lalike_fn _ _ | exact lalike_fn _ [⟨1, 1, 1, 1⟩] | exact lalike_fn _ [⟨0, 0, 3, 1⟩, ⟨0, 1, 1, 1⟩, ⟨2, 1, 1, 1⟩, ⟨0, 2, 3, 1⟩] | exact lalike_fn _ [⟨-1, -1, 3, 3⟩] | exact union_fn [⟨0, 0, 2, 2⟩] [⟨1, 1, 2, 2⟩] | exact common_fn [⟨0, 0, 2, 2⟩] [⟨1, 1, 2, 2⟩] | exact right_fn _ | exact right_fn [⟨0, 0, 2, 2⟩, ⟨1, 1, 2, 2⟩] | exact area3_fn [⟨0, 0, 2, 2⟩, ⟨1, 1, 2, 2⟩] | exact box3_fn [⟨0, 0, 2, 2⟩, ⟨1, 1, 2, 2⟩] | exact has3_fn [⟨0, 0, 2, 2⟩] ⟨1, 0⟩ | exact has3_fn [⟨0, 0, 2, 2⟩] ⟨2, 0⟩ | exact grow3_fn [⟨0, 0, 1, 1⟩] 1 | (simp [aw1, aw2, aw3, aw4, aw5, aw6, aw7, aw8, aw9, aw10, aw11, aw12, sameL]; done)))
  refine WA_seq (x := (fcd Tryz.f9 [1, 1, 0])) (y := (fcd Tryz.f9 [1, 1, 1])) ?_
  refine V_draw Γ [] [0, 1, 2, 3, 4, 5, 6] mixed (by kernel_rfl) (evs ?_)
  all_goals (try with_reducible (repeat' (first | apply And.intro | intro _)))
  all_goals (try (first | with_reducible refine wa_id ?_ | exact True.intro | omega | exact lbox_fn _ _ _ _ | exact of3_fn [⟨0, 0, 2, 2⟩, ⟨1, 1, 2, 2⟩] | exact minus_fn [⟨0, 0, 3, 3⟩] [⟨1, 1, 1, 1⟩] | exact tiles3_fn [⟨15, 0, 2, 1⟩] | exact lalike_fn _ [⟨0, 0, 2, 1⟩, ⟨0, 1, 3, 1⟩, ⟨1, 2, 2, 1⟩] | exact lalike_fn _ _ | exact lalike_fn _ [⟨1, 1, 1, 1⟩] | exact lalike_fn _ [⟨0, 0, 3, 1⟩, ⟨0, 1, 1, 1⟩, ⟨2, 1, 1, 1⟩, ⟨0, 2, 3, 1⟩] | exact lalike_fn _ [⟨-1, -1, 3, 3⟩] | exact union_fn [⟨0, 0, 2, 2⟩] [⟨1, 1, 2, 2⟩] | exact common_fn [⟨0, 0, 2, 2⟩] [⟨1, 1, 2, 2⟩] | exact right_fn _ | exact right_fn [⟨0, 0, 2, 2⟩, ⟨1, 1, 2, 2⟩] | exact area3_fn [⟨0, 0, 2, 2⟩, ⟨1, 1, 2, 2⟩] | exact box3_fn [⟨0, 0, 2, 2⟩, ⟨1, 1, 2, 2⟩] | exact has3_fn [⟨0, 0, 2, 2⟩] ⟨1, 0⟩ | exact has3_fn [⟨0, 0, 2, 2⟩] ⟨2, 0⟩ | exact grow3_fn [⟨0, 0, 1, 1⟩] 1 | (simp [aw1, aw2, aw3, aw4, aw5, aw6, aw7, aw8, aw9, aw10, aw11, aw12, sameL]; done)))
  refine WA_seq (x := (fcd Tryz.f9 [1, 1, 1, 0])) (y := (fcd Tryz.f9 [1, 1, 1, 1])) ?_
  refine V_regionX Γ Δ [] [0, 1, 2, 3, 4, 5, 6] (evs ?_)
  all_goals (try with_reducible (repeat' (first | apply And.intro | intro _)))
  all_goals (try (first | with_reducible refine wa_id ?_ | exact True.intro | exact of3_fn _ | omega | exact lbox_fn _ _ _ _ | exact of3_fn [⟨0, 0, 2, 2⟩, ⟨1, 1, 2, 2⟩] | exact minus_fn [⟨0, 0, 3, 3⟩] [⟨1, 1, 1, 1⟩] | exact tiles3_fn [⟨15, 0, 2, 1⟩] | exact lalike_fn _ [⟨0, 0, 2, 1⟩, ⟨0, 1, 3, 1⟩, ⟨1, 2, 2, 1⟩] | exact lalike_fn _ _ | exact lalike_fn _ [⟨1, 1, 1, 1⟩] | exact lalike_fn _ [⟨0, 0, 3, 1⟩, ⟨0, 1, 1, 1⟩, ⟨2, 1, 1, 1⟩, ⟨0, 2, 3, 1⟩] | exact lalike_fn _ [⟨-1, -1, 3, 3⟩] | exact union_fn [⟨0, 0, 2, 2⟩] [⟨1, 1, 2, 2⟩] | exact common_fn [⟨0, 0, 2, 2⟩] [⟨1, 1, 2, 2⟩] | exact right_fn _ | exact right_fn [⟨0, 0, 2, 2⟩, ⟨1, 1, 2, 2⟩] | exact area3_fn [⟨0, 0, 2, 2⟩, ⟨1, 1, 2, 2⟩] | exact box3_fn [⟨0, 0, 2, 2⟩, ⟨1, 1, 2, 2⟩] | exact has3_fn [⟨0, 0, 2, 2⟩] ⟨1, 0⟩ | exact has3_fn [⟨0, 0, 2, 2⟩] ⟨2, 0⟩ | exact grow3_fn [⟨0, 0, 1, 1⟩] 1 | (simp [aw1, aw2, aw3, aw4, aw5, aw6, aw7, aw8, aw9, aw10, aw11, aw12, sameL]; done)))
  refine WA_seq (x := (fcd Tryz.f9 [1, 1, 1, 1, 0])) (y := (fcd Tryz.f9 [1, 1, 1, 1, 1])) ?_
  refine V_regionX Γ Δ [] [0, 1, 2, 3, 4, 5, 6] (evs ?_)
  all_goals (try with_reducible (repeat' (first | apply And.intro | intro _)))
  all_goals (try (first | with_reducible refine wa_id ?_ | exact True.intro | exact lbox_fn _ _ _ _ | exact minus_fn _ _ | omega | exact lbox_fn _ _ _ _ | exact of3_fn [⟨0, 0, 2, 2⟩, ⟨1, 1, 2, 2⟩] | exact minus_fn [⟨0, 0, 3, 3⟩] [⟨1, 1, 1, 1⟩] | exact tiles3_fn [⟨15, 0, 2, 1⟩] | exact lalike_fn _ [⟨0, 0, 2, 1⟩, ⟨0, 1, 3, 1⟩, ⟨1, 2, 2, 1⟩] | exact lalike_fn _ _ | exact lalike_fn _ [⟨1, 1, 1, 1⟩] | exact lalike_fn _ [⟨0, 0, 3, 1⟩, ⟨0, 1, 1, 1⟩, ⟨2, 1, 1, 1⟩, ⟨0, 2, 3, 1⟩] | exact lalike_fn _ [⟨-1, -1, 3, 3⟩] | exact union_fn [⟨0, 0, 2, 2⟩] [⟨1, 1, 2, 2⟩] | exact common_fn [⟨0, 0, 2, 2⟩] [⟨1, 1, 2, 2⟩] | exact right_fn _ | exact right_fn [⟨0, 0, 2, 2⟩, ⟨1, 1, 2, 2⟩] | exact area3_fn [⟨0, 0, 2, 2⟩, ⟨1, 1, 2, 2⟩] | exact box3_fn [⟨0, 0, 2, 2⟩, ⟨1, 1, 2, 2⟩] | exact has3_fn [⟨0, 0, 2, 2⟩] ⟨1, 0⟩ | exact has3_fn [⟨0, 0, 2, 2⟩] ⟨2, 0⟩ | exact grow3_fn [⟨0, 0, 1, 1⟩] 1 | (simp [aw1, aw2, aw3, aw4, aw5, aw6, aw7, aw8, aw9, aw10, aw11, aw12, sameL]; done)))
  refine WA_seq (x := (fcd Tryz.f9 [1, 1, 1, 1, 1, 0])) (y := (fcd Tryz.f9 [1, 1, 1, 1, 1, 1])) ?_
  refine V_regionX Γ Δ [] [0, 1, 2, 3, 4, 5, 6] (evs ?_)
  all_goals (try with_reducible (repeat' (first | apply And.intro | intro _)))
  all_goals (try (first | with_reducible refine wa_id ?_ | exact True.intro | exact lbox_fn _ _ _ _ | exact tiles3_fn _ | omega | exact lbox_fn _ _ _ _ | exact of3_fn [⟨0, 0, 2, 2⟩, ⟨1, 1, 2, 2⟩] | exact minus_fn [⟨0, 0, 3, 3⟩] [⟨1, 1, 1, 1⟩] | exact tiles3_fn [⟨15, 0, 2, 1⟩] | exact lalike_fn _ [⟨0, 0, 2, 1⟩, ⟨0, 1, 3, 1⟩, ⟨1, 2, 2, 1⟩] | exact lalike_fn _ _ | exact lalike_fn _ [⟨1, 1, 1, 1⟩] | exact lalike_fn _ [⟨0, 0, 3, 1⟩, ⟨0, 1, 1, 1⟩, ⟨2, 1, 1, 1⟩, ⟨0, 2, 3, 1⟩] | exact lalike_fn _ [⟨-1, -1, 3, 3⟩] | exact union_fn [⟨0, 0, 2, 2⟩] [⟨1, 1, 2, 2⟩] | exact common_fn [⟨0, 0, 2, 2⟩] [⟨1, 1, 2, 2⟩] | exact right_fn _ | exact right_fn [⟨0, 0, 2, 2⟩, ⟨1, 1, 2, 2⟩] | exact area3_fn [⟨0, 0, 2, 2⟩, ⟨1, 1, 2, 2⟩] | exact box3_fn [⟨0, 0, 2, 2⟩, ⟨1, 1, 2, 2⟩] | exact has3_fn [⟨0, 0, 2, 2⟩] ⟨1, 0⟩ | exact has3_fn [⟨0, 0, 2, 2⟩] ⟨2, 0⟩ | exact grow3_fn [⟨0, 0, 1, 1⟩] 1 | (simp [aw1, aw2, aw3, aw4, aw5, aw6, aw7, aw8, aw9, aw10, aw11, aw12, sameL]; done)))
  refine WA_seq (x := (fcd Tryz.f9 [1, 1, 1, 1, 1, 1, 0])) (y := (fcd Tryz.f9 [1, 1, 1, 1, 1, 1, 1])) ?_
  refine V_regionX Γ Δ [] [0, 1, 2, 3, 4, 5, 6] (evs ?_)
  all_goals (try with_reducible (repeat' (first | apply And.intro | intro _)))
  all_goals (try (first | with_reducible refine wa_id ?_ | exact True.intro | exact lalike_fn _ _ | exact union_fn _ _ | exact common_fn _ _ | exact lbox_fn _ _ _ _ | exact right_fn _ | exact area3_fn _ | exact box3_fn _ | exact has3_fn _ ⟨_, _⟩ | exact grow3_fn _ _ | omega | exact lbox_fn _ _ _ _ | exact of3_fn [⟨0, 0, 2, 2⟩, ⟨1, 1, 2, 2⟩] | exact minus_fn [⟨0, 0, 3, 3⟩] [⟨1, 1, 1, 1⟩] | exact tiles3_fn [⟨15, 0, 2, 1⟩] | exact lalike_fn _ [⟨0, 0, 2, 1⟩, ⟨0, 1, 3, 1⟩, ⟨1, 2, 2, 1⟩] | exact lalike_fn _ _ | exact lalike_fn _ [⟨1, 1, 1, 1⟩] | exact lalike_fn _ [⟨0, 0, 3, 1⟩, ⟨0, 1, 1, 1⟩, ⟨2, 1, 1, 1⟩, ⟨0, 2, 3, 1⟩] | exact lalike_fn _ [⟨-1, -1, 3, 3⟩] | exact union_fn [⟨0, 0, 2, 2⟩] [⟨1, 1, 2, 2⟩] | exact common_fn [⟨0, 0, 2, 2⟩] [⟨1, 1, 2, 2⟩] | exact right_fn _ | exact right_fn [⟨0, 0, 2, 2⟩, ⟨1, 1, 2, 2⟩] | exact area3_fn [⟨0, 0, 2, 2⟩, ⟨1, 1, 2, 2⟩] | exact box3_fn [⟨0, 0, 2, 2⟩, ⟨1, 1, 2, 2⟩] | exact has3_fn [⟨0, 0, 2, 2⟩] ⟨1, 0⟩ | exact has3_fn [⟨0, 0, 2, 2⟩] ⟨2, 0⟩ | exact grow3_fn [⟨0, 0, 1, 1⟩] 1 | (simp [aw1, aw2, aw3, aw4, aw5, aw6, aw7, aw8, aw9, aw10, aw11, aw12, sameL]; done)))
  refine V_ret (evs ?_)
  first | exact True.intro | rfl | (simp [aw1, aw2, aw3, aw4, aw5, aw6, aw7, aw8, aw9, aw10, aw11, aw12, sameL]; done)

end Go.S03

