/- Proved: the law MaskPlain returns true for every input: Feather and Grow leave a mask of equal values unchanged; with the radius 0 and by 0 pixels they leave every valid mask unchanged. No conditions. -/
import Derived.Test.YtppghgoeibelkaaR0
import Derived.Test.YtppghgoeibelkaaL6
set_option linter.unusedSimpArgs false
set_option linter.unusedVariables false
namespace Go.Proofs.Ytppghgoeibelkaa
open Go.ChangeShapes Go.WideShapes Go.ChangeAt Go.RowKit Go.Rect Go.Eng
set_option maxRecDepth 100000 in
theorem maskPlain_lifted (os : Os) (started : os.Started) (H : Type) (enc : TypeId × Value → H) :
    ReturnsInHanded {} Try.checked os 6 .any (Rows.maskPlainSpec.pre6 enc Try.prog Try.f6 Rows.maskPlainRow.domain false) (Rows.maskPlainSpec.post enc Try.prog Try.f6 false true false false) := by
  refine returnsInHanded_of_change_sized (C := Try.checked) Try.own started (by kernel_rfl) Try.func6
    (ChangeSpec.witness6 (enc := enc) (C := Try.checked) false ⟨#[], #[.int .u8 0, .int .u8 0, .int .u16 0, .int .u8 0, .int .u8 0, .agg #[.int .i64 0, .int .i64 0, .slice none 0 0]], []⟩ 8 (by kernel_rfl) (by kernel_rfl) (by kernel_rfl) (by kernel_rfl)) ?_
  intro W base args ds gs before hval0 hW hcnd hwt _
  have hval : ∀ (j : Nat) t v, Try.f6.params[j]? = some t → args[j]? = some v → Value.okWide Try.prog W .any base t v := hval0
  have hW' := hW
  obtain ⟨p, q, hA0, hV, rfl, hfz, hnd⟩ := hW
  have hA : DataW.TrodAll enc Try.prog W 0 (fun _ => true) true Try.f6.params.toList args.toList ds p := hA0
  rw [Try.params6] at hA hval
  obtain ⟨v0, v1, v2, v3, v4, v5, d0, d1, d2, d3, d4, d5, p0, p1, p2, p3, p4, p5, rfl, rfl, rfl, h0, h1, h2, h3, h4, h5⟩ := trodAll_six hA
  obtain ⟨rfl, rfl⟩ := trodVars_none hV
  obtain ⟨w, hw, r0⟩ := a_u8 (hval 0 5 v0 rfl rfl) h0 (sized_mem hwt (j := 0) (t := 5) (by kernel_rfl) rfl)
  obtain ⟨h, hh, r1⟩ := a_u8 (hval 1 5 v1 rfl rfl) h1 (sized_mem hwt (j := 1) (t := 5) (by kernel_rfl) rfl)
  obtain ⟨v, hv, r2⟩ := a_u16 (hval 2 45 v2 rfl rfl) h2 (sized_mem hwt (j := 2) (t := 45) (by kernel_rfl) rfl)
  obtain ⟨r, hr, r3⟩ := a_u8 (hval 3 5 v3 rfl rfl) h3 (sized_mem hwt (j := 3) (t := 5) (by kernel_rfl) rfl)
  obtain ⟨n, hn, r4⟩ := a_u8 (hval 4 5 v4 rfl rfl) h4 (sized_mem hwt (j := 4) (t := 5) (by kernel_rfl) rfl)
  obtain ⟨m, r5⟩ := a_mk (hval 5 24 v5 rfl rfl) h5 (sized_mem hwt (j := 5) (t := 24) (by kernel_rfl) rfl)
  clear hA0 hval0
  simp only [List.append_nil] at hW'
  have hlt : ∀ x ∈ p0 ++ p1 ++ p2 ++ p3 ++ p4 ++ p5, x.block < W.heap.size := fun x hx => by simpa [List.append_assoc] using hW'.lt x hx
  refine (call_of (Go.S23.l_plain w h v r n m hw hh hv hr hn) (by simp only [Eng.RepL]; exact ⟨_, _, rfl, r0, _, _, rfl, r1, _, _, rfl, r2, _, _, rfl, r3, _, _, rfl, r4, _, _, rfl, r5, rfl⟩)).mono fun e W' ⟨he, hb⟩ => ?_
  subst he
  exact ⟨_, rfl, _, _, _, [], _, [], hW', trodAll_mk1 (shut_bool Try.underlying4 _), trodAll_mk6
    (Below.trod Try.laidOut (by kernel_rfl) (of_decide_eq_true (by kernel_rfl)) h0 hb fun x hx => hlt x (List.mem_append.2 (.inl (List.mem_append.2 (.inl (List.mem_append.2 (.inl (List.mem_append.2 (.inl (List.mem_append.2 (.inl hx)))))))))))
    (Below.trod Try.laidOut (by kernel_rfl) (of_decide_eq_true (by kernel_rfl)) h1 hb fun x hx => hlt x (List.mem_append.2 (.inl (List.mem_append.2 (.inl (List.mem_append.2 (.inl (List.mem_append.2 (.inl (List.mem_append.2 (.inr hx)))))))))))
    (Below.trod Try.laidOut (by kernel_rfl) (of_decide_eq_true (by kernel_rfl)) h2 hb fun x hx => hlt x (List.mem_append.2 (.inl (List.mem_append.2 (.inl (List.mem_append.2 (.inl (List.mem_append.2 (.inr hx)))))))))
    (Below.trod Try.laidOut (by kernel_rfl) (of_decide_eq_true (by kernel_rfl)) h3 hb fun x hx => hlt x (List.mem_append.2 (.inl (List.mem_append.2 (.inl (List.mem_append.2 (.inr hx)))))))
    (Below.trod Try.laidOut (by kernel_rfl) (of_decide_eq_true (by kernel_rfl)) h4 hb fun x hx => hlt x (List.mem_append.2 (.inl (List.mem_append.2 (.inr hx)))))
    (Below.trod Try.laidOut (by kernel_rfl) (of_decide_eq_true (by kernel_rfl)) h5 hb fun x hx => hlt x (List.mem_append.2 (.inr hx))), rfl, hb.frame _, fun h => by cases h⟩

theorem maskPlain_holds : Rows.MaskPlainSaid :=
  OpenClaim.holds_of_wide 6 Try.f6 rfl rfl rfl rfl rfl rfl rfl ⟨rfl, rfl, rfl, rfl, rfl⟩ rfl rfl rfl rfl rfl (by kernel_rfl) Try.func6 (by kernel_rfl)
    (of_decide_eq_true (by kernel_rfl)) (by unfold Func.isWrapper; first | (rw [if_pos (by decide +kernel)]; kernel_rfl) | (rw [if_neg (by decide +kernel)]; exact ⟨rfl, rfl⟩))
    (fun os started H enc _ => maskPlain_lifted os started H enc)
#print axioms maskPlain_holds
end Go.Proofs.Ytppghgoeibelkaa

