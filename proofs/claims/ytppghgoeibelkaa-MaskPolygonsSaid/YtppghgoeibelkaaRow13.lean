/- Proved: the law MaskPolygons returns true for every input: Polygon returns what the reference returns, for any size and polygon. No conditions. -/
import Derived.Test.YtppghgoeibelkaaR0
import Derived.Test.YtppghgoeibelkaaL13
set_option linter.unusedSimpArgs false
set_option linter.unusedVariables false
namespace Go.Proofs.Ytppghgoeibelkaa
open Go.ChangeShapes Go.WideShapes Go.ChangeAt Go.RowKit Go.Rect Go.Eng
set_option maxRecDepth 100000 in
theorem maskPolygons_lifted (os : Os) (started : os.Started) (H : Type) (enc : TypeId × Value → H) :
    ReturnsInHanded {} Try.checked os 13 .any (Rows.maskPolygonsSpec.pre6 enc Try.prog Try.f13 Rows.maskPolygonsRow.domain false) (Rows.maskPolygonsSpec.post enc Try.prog Try.f13 false true false false) := by
  refine returnsInHanded_of_change_sized (C := Try.checked) Try.own started (by kernel_rfl) Try.func13
    (ChangeSpec.witness6 (enc := enc) (C := Try.checked) false ⟨#[], #[.int .i64 0, .int .i64 0, .slice none 0 0], []⟩ 8 (by kernel_rfl) (by kernel_rfl) (by kernel_rfl) (by kernel_rfl)) ?_
  intro W base args ds gs before hval0 hW hcnd hwt _
  have hval : ∀ (j : Nat) t v, Try.f13.params[j]? = some t → args[j]? = some v → Value.okWide Try.prog W .any base t v := hval0
  have hW' := hW
  obtain ⟨p, q, hA0, hV, rfl, hfz, hnd⟩ := hW
  have hA : DataW.TrodAll enc Try.prog W 0 (fun _ => true) true Try.f13.params.toList args.toList ds p := hA0
  rw [Try.params13] at hA hval
  obtain ⟨v0, v1, v2, d0, d1, d2, p0, p1, p2, rfl, rfl, rfl, h0, h1, h2⟩ := trodAll_three hA
  obtain ⟨rfl, rfl⟩ := trodVars_none hV
  obtain ⟨w, r0⟩ := a_int (hval 0 3 v0 rfl rfl) h0 (sized_mem hwt (j := 0) (t := 3) (by kernel_rfl) rfl)
  obtain ⟨h, r1⟩ := a_int (hval 1 3 v1 rfl rfl) h1 (sized_mem hwt (j := 1) (t := 3) (by kernel_rfl) rfl)
  obtain ⟨ps, r2⟩ := a_poly (hval 2 59 v2 rfl rfl) h2 (sized_mem hwt (j := 2) (t := 59) (by kernel_rfl) rfl)
  clear hA0 hval0
  simp only [List.append_nil] at hW'
  have hlt : ∀ x ∈ p0 ++ p1 ++ p2, x.block < W.heap.size := fun x hx => by simpa [List.append_assoc] using hW'.lt x hx
  refine (call_of (Go.S23.l_polygons w h ps) (by simp only [Eng.RepL]; exact ⟨_, _, rfl, r0, _, _, rfl, r1, _, _, rfl, r2, rfl⟩)).mono fun e W' ⟨he, hb⟩ => ?_
  subst he
  exact ⟨_, rfl, _, _, _, [], _, [], hW', trodAll_mk1 (shut_bool Try.underlying4 _), trodAll_mk3
    (Below.trod Try.laidOut (by kernel_rfl) (of_decide_eq_true (by kernel_rfl)) h0 hb fun x hx => hlt x (List.mem_append.2 (.inl (List.mem_append.2 (.inl hx)))))
    (Below.trod Try.laidOut (by kernel_rfl) (of_decide_eq_true (by kernel_rfl)) h1 hb fun x hx => hlt x (List.mem_append.2 (.inl (List.mem_append.2 (.inr hx)))))
    (Below.trod Try.laidOut (by kernel_rfl) (of_decide_eq_true (by kernel_rfl)) h2 hb fun x hx => hlt x (List.mem_append.2 (.inr hx))), rfl, hb.frame _, fun h => by cases h⟩

theorem maskPolygons_holds : Rows.MaskPolygonsSaid :=
  OpenClaim.holds_of_wide 13 Try.f13 rfl rfl rfl rfl rfl rfl rfl ⟨rfl, rfl, rfl, rfl, rfl⟩ rfl rfl rfl rfl rfl (by kernel_rfl) Try.func13 (by kernel_rfl)
    (of_decide_eq_true (by kernel_rfl)) (by unfold Func.isWrapper; first | (rw [if_pos (by decide +kernel)]; kernel_rfl) | (rw [if_neg (by decide +kernel)]; exact ⟨rfl, rfl⟩))
    (fun os started H enc _ => maskPolygons_lifted os started H enc)
#print axioms maskPolygons_holds
end Go.Proofs.Ytppghgoeibelkaa

