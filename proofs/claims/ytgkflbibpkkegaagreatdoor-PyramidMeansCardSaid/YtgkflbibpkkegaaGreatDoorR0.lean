import Derived.Test.YtgkflbibpkkegaaGreatDoorMC
import Derived.Test.YtgkflbibpkkegaaGreatDoorEF
import Derived.Test.YtgkflbibpkkegaaGreatDoorRows
import Derived.ProofKit
import Derived.Lib.SmallJoins
set_option linter.unusedSimpArgs false
set_option linter.unusedVariables false
namespace Go.Proofs.YtgkflbibpkkegaaGreatDoor
open Go.ChangeShapes Go.WideShapes Go.ChangeAt Go.RowKit Go.Rect Go.Eng

theorem Tryz.own : ownKnob Tryz.prog.godebug = none := by kernel_rfl
theorem Tryz.laidOut : laidOutB Tryz.prog = true := by kernel_rfl
section
variable {W : World}
set_option maxRecDepth 100000 in
theorem o_int : Opn Tryz.prog W 3 fun l => ∃ n : Int, (Lit.int .i64 n).wf = true ∧ l = [.i n] := fun H enc fuel cs x h hw => by
  obtain ⟨l, ⟨n, h1, h2⟩, h3⟩ := opn_int Tryz.underlying3 H enc fuel cs x h hw
  exact ⟨l, ⟨n, h1, h2⟩, h3⟩
set_option maxRecDepth 100000 in
theorem o_rc : Opn Tryz.prog W 23 fun l => ∃ p : Rc, l = rcC p := fun H enc fuel cs x h hw => by
  obtain ⟨l, hl, h3⟩ := opn_struct (w := W) (Ss := [_, _, _, _]) Tryz.underlying23 (chainB_spec (by kernel_rfl)) ⟨o_int, o_int, o_int, o_int, trivial⟩ H enc fuel cs x h hw
  obtain ⟨a, b, rfl, ⟨x, _, rfl⟩, c, d, rfl, ⟨y, _, rfl⟩, e, f, rfl, ⟨z, _, rfl⟩, g, i, rfl, ⟨t, _, rfl⟩, rfl⟩ := hl
  exact ⟨_, ⟨⟨x, y, z, t⟩, rfl⟩, h3⟩
set_option maxRecDepth 100000 in
theorem o_px : Opn Tryz.prog W 44 fun l => ∃ p : Px, l = pxC p := fun H enc fuel cs x h hw => by
  obtain ⟨l, hl, h3⟩ := opn_struct (w := W) (Ss := [_, _, _, _]) Tryz.underlying44 (chainB_spec (by kernel_rfl)) ⟨o_int, o_int, o_int, o_int, trivial⟩ H enc fuel cs x h hw
  obtain ⟨a, b, rfl, ⟨x, _, rfl⟩, c, d, rfl, ⟨y, _, rfl⟩, e, f, rfl, ⟨z, _, rfl⟩, g, i, rfl, ⟨t, _, rfl⟩, rfl⟩ := hl
  exact ⟨_, ⟨⟨x, y, z, t⟩, rfl⟩, h3⟩
theorem list_of {α : Type} {f : α → List D} : ∀ {els : List (List D)}, (∀ x ∈ els, ∃ p : α, x = f p) → ∃ l : List α, els = l.map f
  | [], _ => ⟨[], rfl⟩
  | x :: els, h => by
    obtain ⟨p, hp⟩ := h x (by simp)
    obtain ⟨l, hl⟩ := list_of (els := els) fun y hy => h y (by simp [hy])
    exact ⟨p :: l, by rw [hp, hl]; rfl⟩
set_option maxRecDepth 100000 in
theorem o_pxs : Opn Tryz.prog W 29 fun l => ∃ v : List Px, l = [.sl 4 (v.map pxC)] := fun H enc fuel cs x h hw => by
  obtain ⟨l, ⟨els, h1, _, rfl⟩, h3⟩ := opn_slice (n := 4) Tryz.underlying29 (by kernel_rfl) (by decide) (of_decide_eq_true (by kernel_rfl)) o_px H enc fuel cs x h hw
  obtain ⟨v, rfl⟩ := list_of h1
  exact ⟨_, ⟨v, rfl⟩, h3⟩
set_option maxRecDepth 100000 in
theorem o_im : Opn Tryz.prog W 31 fun l => ∃ m : Im, l = imC m := fun H enc fuel cs x h hw => by
  obtain ⟨l, hl, h3⟩ := opn_struct (w := W) (Ss := [_, _, _]) Tryz.underlying31 (chainB_spec (by kernel_rfl)) ⟨o_int, o_int, o_pxs, trivial⟩ H enc fuel cs x h hw
  obtain ⟨a, b, rfl, ⟨x, _, rfl⟩, c, d, rfl, ⟨y, _, rfl⟩, e, f, rfl, ⟨v, rfl⟩, rfl⟩ := hl
  exact ⟨_, ⟨⟨x, y, v⟩, rfl⟩, h3⟩
end

theorem sized_mem {H : Type} {P : Program} {ts : List TypeId} {ds : List (DataW H)} (h : (DataW.weightsEach P ts ds).all (· ≤ reachBytes) = true) {j : Nat} {t : TypeId} {d : DataW H} (ht : ts[j]? = some t) (hd : ds[j]? = some d) : ∀ n ∈ d.weights P t, n ≤ reachBytes := by
  intro n hn
  have := List.all_eq_true.1 h n (DataW.weights_mem_each ht hd n hn)
  simpa using this

section
variable {H : Type} {enc : TypeId × Value → H} {W : World} {base : Nat} {v : Value} {d : DataW H} {p : List MemPlace} {t : TypeId}
set_option maxRecDepth 100000 in
theorem arg_one {S : List D → Prop} (ho : Opn Tryz.prog W t S) (hv : v.cells.toList = [v]) (h : DataW.Trod enc Tryz.prog W 0 (fun _ => true) true t v d p) (hs : ∀ n ∈ d.weights Tryz.prog t, n ≤ reachBytes) : ∃ l, S l ∧ RepDs (· < W.heap.size) W l [v] := by
  obtain ⟨fuel, hf⟩ := h
  obtain ⟨l, h1, h2⟩ := ho H enc fuel _ _ hf hs
  rw [hv] at h2
  exact ⟨l, h1, h2⟩
set_option maxRecDepth 100000 in
theorem arg_agg {S : List D → Prop} (ho : Opn Tryz.prog W t S) {cs : Array Value} (hv : v = .agg cs) (h : DataW.Trod enc Tryz.prog W 0 (fun _ => true) true t v d p) (hs : ∀ n ∈ d.weights Tryz.prog t, n ≤ reachBytes) : ∃ l, S l ∧ RepD (· < W.heap.size) W (.agg l) v := by
  obtain ⟨fuel, hf⟩ := h
  obtain ⟨l, h1, h2⟩ := ho H enc fuel _ _ hf hs
  subst hv
  refine ⟨l, h1, ?_⟩
  simp only [RepD]
  exact ⟨cs.toList, by simp, by simpa [Value.cells] using h2⟩
set_option maxRecDepth 100000 in
theorem a_im (hv : Value.okWide Tryz.prog W .any base 31 v) (h : DataW.Trod enc Tryz.prog W 0 (fun _ => true) true 31 v d p) (hs : ∀ n ∈ d.weights Tryz.prog 31, n ≤ reachBytes) : ∃ r : Im, RepD (· < W.heap.size) W (imD r) v := by
  obtain ⟨cs, rfl, _⟩ := okWide_struct Tryz.underlying31 hv
  obtain ⟨l, ⟨r, rfl⟩, h2⟩ := arg_agg o_im rfl h hs
  exact ⟨r, h2⟩
set_option maxRecDepth 100000 in
theorem a_rc (hv : Value.okWide Tryz.prog W .any base 23 v) (h : DataW.Trod enc Tryz.prog W 0 (fun _ => true) true 23 v d p) (hs : ∀ n ∈ d.weights Tryz.prog 23, n ≤ reachBytes) : ∃ r : Rc, RepD (· < W.heap.size) W (rcD r) v := by
  obtain ⟨cs, rfl, _⟩ := okWide_struct Tryz.underlying23 hv
  obtain ⟨l, ⟨r, rfl⟩, h2⟩ := arg_agg o_rc rfl h hs
  exact ⟨r, h2⟩
set_option maxRecDepth 100000 in
theorem a_px (hv : Value.okWide Tryz.prog W .any base 44 v) (h : DataW.Trod enc Tryz.prog W 0 (fun _ => true) true 44 v d p) (hs : ∀ n ∈ d.weights Tryz.prog 44, n ≤ reachBytes) : ∃ r : Px, RepD (· < W.heap.size) W (pxD r) v := by
  obtain ⟨cs, rfl, _⟩ := okWide_struct Tryz.underlying44 hv
  obtain ⟨l, ⟨r, rfl⟩, h2⟩ := arg_agg o_px rfl h hs
  exact ⟨r, h2⟩
set_option maxRecDepth 100000 in
theorem a_int (hv : Value.okWide Tryz.prog W .any base 3 v) (_h : DataW.Trod enc Tryz.prog W 0 (fun _ => true) true 3 v d p) (_hs : ∀ n ∈ d.weights Tryz.prog 3, n ≤ reachBytes) : ∃ n : Int, RepD (· < W.heap.size) W (.i n) v := by
  obtain ⟨n, rfl⟩ := okWide_int Tryz.underlying3 hv
  exact ⟨n, by simp only [RepD]⟩
end
set_option maxRecDepth 100000 in
theorem call_of {f : FuncId} {ds : List Eng.D} {vs : Array Value} {W : World} (h : Eng.Fn Tryz.prog f ds (.dat (.b true))) (hr : Eng.RepL (· < W.heap.size) W ds vs.toList) : Calls Tryz.prog f vs W fun e W' => e = .returned (.bool true) ∧ Below W.heap.size W W' := by
  refine (h W vs (fun _ => False) (Eng.RepL.tr (fun b hb => ⟨hb, fun h => h⟩) _ _ hr)).mono fun e W' ⟨v, bs, he, hb, _, _, hv⟩ => ?_
  simp only [Eng.RepR, Eng.RepD] at hv
  exact ⟨by rw [he, hv.2], hb⟩
end Go.Proofs.YtgkflbibpkkegaaGreatDoor

