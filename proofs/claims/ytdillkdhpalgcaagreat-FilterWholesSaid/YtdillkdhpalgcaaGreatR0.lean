import Derived.Test.YtdillkdhpalgcaaGreatLF
import Derived.Test.YtdillkdhpalgcaaGreatEE
import Derived.Test.YtdillkdhpalgcaaGreatRows
import Derived.ProofKit
import Derived.Lib.SmallJoins
set_option linter.unusedSimpArgs false
set_option linter.unusedVariables false
namespace Go.Proofs.YtdillkdhpalgcaaGreat
open Go.ChangeShapes Go.WideShapes Go.ChangeAt Go.RowKit Go.Rect Go.Eng

theorem Tryz.own : ownKnob Tryz.prog.godebug = none := by kernel_rfl
theorem Tryz.laidOut : laidOutB Tryz.prog = true := by kernel_rfl
section
variable {W : World}
set_option maxRecDepth 100000 in
theorem o_int : Opn Tryz.prog W 3 fun l => ∃ n : Int, (Lit.int .i64 n).wf = true ∧ l = [.i n] := fun H enc fuel cs x h hw => by
  obtain ⟨l, ⟨n, h1, h2⟩, h3⟩ := opn_int Tryz.underlying3 H enc fuel cs x h hw
  exact ⟨l, ⟨n, h1, h2⟩, h3⟩
set_option maxRecDepth 100000 in
theorem o_pt : Opn Tryz.prog W 26 fun l => ∃ p : Pt, l = ptC p := fun H enc fuel cs x h hw => by
  obtain ⟨l, hl, h3⟩ := opn_struct (w := W) (Ss := [_, _]) Tryz.underlying26 (chainB_spec (by kernel_rfl)) ⟨o_int, o_int, trivial⟩ H enc fuel cs x h hw
  obtain ⟨a, b, rfl, ⟨x, _, rfl⟩, c, d, rfl, ⟨y, _, rfl⟩, rfl⟩ := hl
  exact ⟨_, ⟨⟨x, y⟩, rfl⟩, h3⟩
set_option maxRecDepth 100000 in
theorem o_rc : Opn Tryz.prog W 29 fun l => ∃ p : Rc, l = rcC p := fun H enc fuel cs x h hw => by
  obtain ⟨l, hl, h3⟩ := opn_struct (w := W) (Ss := [_, _, _, _]) Tryz.underlying29 (chainB_spec (by kernel_rfl)) ⟨o_int, o_int, o_int, o_int, trivial⟩ H enc fuel cs x h hw
  obtain ⟨a, b, rfl, ⟨x, _, rfl⟩, c, d, rfl, ⟨y, _, rfl⟩, e, f, rfl, ⟨z, _, rfl⟩, g, i, rfl, ⟨t, _, rfl⟩, rfl⟩ := hl
  exact ⟨_, ⟨⟨x, y, z, t⟩, rfl⟩, h3⟩
set_option maxRecDepth 100000 in
theorem o_px : Opn Tryz.prog W 49 fun l => ∃ p : Px, l = pxC p := fun H enc fuel cs x h hw => by
  obtain ⟨l, hl, h3⟩ := opn_struct (w := W) (Ss := [_, _, _, _]) Tryz.underlying49 (chainB_spec (by kernel_rfl)) ⟨o_int, o_int, o_int, o_int, trivial⟩ H enc fuel cs x h hw
  obtain ⟨a, b, rfl, ⟨x, _, rfl⟩, c, d, rfl, ⟨y, _, rfl⟩, e, f, rfl, ⟨z, _, rfl⟩, g, i, rfl, ⟨t, _, rfl⟩, rfl⟩ := hl
  exact ⟨_, ⟨⟨x, y, z, t⟩, rfl⟩, h3⟩
theorem list_of {α : Type} {f : α → List D} : ∀ {els : List (List D)}, (∀ x ∈ els, ∃ p : α, x = f p) → ∃ l : List α, els = l.map f
  | [], _ => ⟨[], rfl⟩
  | x :: els, h => by
    obtain ⟨p, hp⟩ := h x (by simp)
    obtain ⟨l, hl⟩ := list_of (els := els) fun y hy => h y (by simp [hy])
    exact ⟨p :: l, by rw [hp, hl]; rfl⟩
set_option maxRecDepth 100000 in
theorem o_ints : Opn Tryz.prog W 27 fun l => ∃ v : List Int, l = [.sl 1 (v.map iC)] := fun H enc fuel cs x h hw => by
  obtain ⟨l, ⟨els, h1, _, rfl⟩, h3⟩ := opn_slice (n := 1) Tryz.underlying27 (by kernel_rfl) (by decide) (of_decide_eq_true (by kernel_rfl)) o_int H enc fuel cs x h hw
  obtain ⟨v, rfl⟩ := list_of (f := iC) fun x hx => by obtain ⟨n, _, e⟩ := h1 x hx; exact ⟨n, e⟩
  exact ⟨_, ⟨v, rfl⟩, h3⟩
set_option maxRecDepth 100000 in
theorem o_pxs : Opn Tryz.prog W 22 fun l => ∃ v : List Px, l = [.sl 4 (v.map pxC)] := fun H enc fuel cs x h hw => by
  obtain ⟨l, ⟨els, h1, _, rfl⟩, h3⟩ := opn_slice (n := 4) Tryz.underlying22 (by kernel_rfl) (by decide) (of_decide_eq_true (by kernel_rfl)) o_px H enc fuel cs x h hw
  obtain ⟨v, rfl⟩ := list_of h1
  exact ⟨_, ⟨v, rfl⟩, h3⟩
set_option maxRecDepth 100000 in
theorem o_im : Opn Tryz.prog W 24 fun l => ∃ m : Im, l = imC m := fun H enc fuel cs x h hw => by
  obtain ⟨l, hl, h3⟩ := opn_struct (w := W) (Ss := [_, _, _]) Tryz.underlying24 (chainB_spec (by kernel_rfl)) ⟨o_int, o_int, o_pxs, trivial⟩ H enc fuel cs x h hw
  obtain ⟨a, b, rfl, ⟨x, _, rfl⟩, c, d, rfl, ⟨y, _, rfl⟩, e, f, rfl, ⟨v, rfl⟩, rfl⟩ := hl
  exact ⟨_, ⟨⟨x, y, v⟩, rfl⟩, h3⟩
set_option maxRecDepth 100000 in
theorem o_ask : Opn Tryz.prog W 31 fun l => ∃ (k : Int) (ps : List Int) (r s : Rc), l = [.i k, .sl 1 (ps.map iC), .i r.x, .i r.y, .i r.w, .i r.h, .i s.x, .i s.y, .i s.w, .i s.h] := fun H enc fuel cs x h hw => by
  obtain ⟨l, hl, h3⟩ := opn_struct (w := W) (Ss := [_, _, _, _]) Tryz.underlying31 (chainB_spec (by kernel_rfl)) ⟨o_int, o_ints, o_rc, o_rc, trivial⟩ H enc fuel cs x h hw
  obtain ⟨a, b, rfl, ⟨x, _, rfl⟩, c, d, rfl, ⟨y, rfl⟩, e, f, rfl, ⟨z, rfl⟩, g, i, rfl, ⟨t, rfl⟩, rfl⟩ := hl
  exact ⟨_, ⟨x, y, z, t, rfl⟩, h3⟩
set_option maxRecDepth 100000 in
theorem o_job : Opn Tryz.prog W 33 fun l => ∃ (m : Im) (o : Pt) (k : Int) (ps : List Int) (r s : Rc), l = [.i m.w, .i m.h, .sl 4 (m.p.map pxC), .i o.x, .i o.y, .i k, .sl 1 (ps.map iC), .i r.x, .i r.y, .i r.w, .i r.h, .i s.x, .i s.y, .i s.w, .i s.h] := fun H enc fuel cs x h hw => by
  obtain ⟨l, hl, h3⟩ := opn_struct (w := W) (Ss := [_, _, _]) Tryz.underlying33 (chainB_spec (by kernel_rfl)) ⟨o_im, o_pt, o_ask, trivial⟩ H enc fuel cs x h hw
  obtain ⟨a, b, rfl, ⟨m, rfl⟩, c, d, rfl, ⟨o, rfl⟩, e, f, rfl, ⟨k, ps, r, s, rfl⟩, rfl⟩ := hl
  exact ⟨_, ⟨m, o, k, ps, r, s, rfl⟩, h3⟩
end

theorem sized_mem {H : Type} {P : Program} {ts : List TypeId} {ds : List (DataW H)} (h : (DataW.weightsEach P ts ds).all (· ≤ reachBytes) = true) {j : Nat} {t : TypeId} {d : DataW H} (ht : ts[j]? = some t) (hd : ds[j]? = some d) : ∀ n ∈ d.weights P t, n ≤ reachBytes := by
  intro n hn
  have := List.all_eq_true.1 h n (DataW.weights_mem_each ht hd n hn)
  simpa using this

section
variable {H : Type} {enc : TypeId × Value → H} {W : World} {base : Nat} {v : Value} {d : DataW H} {p : List MemPlace} {t : TypeId}
set_option maxRecDepth 100000 in
theorem arg_one {S : List D → Prop} (ho : Opn Tryz.prog W t S) (hv : v.cells.toList = [v]) (h : DataW.Trod enc Tryz.prog W 0 (fun _ => true) true t v d p) (hs : ∀ n ∈ d.weights Tryz.prog t, n ≤ reachBytes) : ∃ l, S l ∧ RepDs (· < W.heap.size) W l [v] := by
  obtain ⟨fuel, hf⟩ := h
  obtain ⟨l, h1, h2⟩ := ho H enc fuel _ _ hf hs
  rw [hv] at h2
  exact ⟨l, h1, h2⟩
set_option maxRecDepth 100000 in
theorem arg_agg {S : List D → Prop} (ho : Opn Tryz.prog W t S) {cs : Array Value} (hv : v = .agg cs) (h : DataW.Trod enc Tryz.prog W 0 (fun _ => true) true t v d p) (hs : ∀ n ∈ d.weights Tryz.prog t, n ≤ reachBytes) : ∃ l, S l ∧ RepD (· < W.heap.size) W (.agg l) v := by
  obtain ⟨fuel, hf⟩ := h
  obtain ⟨l, h1, h2⟩ := ho H enc fuel _ _ hf hs
  subst hv
  refine ⟨l, h1, ?_⟩
  simp only [RepD]
  exact ⟨cs.toList, by simp, by simpa [Value.cells] using h2⟩
set_option maxRecDepth 100000 in
theorem a_im (hv : Value.okWide Tryz.prog W .any base 24 v) (h : DataW.Trod enc Tryz.prog W 0 (fun _ => true) true 24 v d p) (hs : ∀ n ∈ d.weights Tryz.prog 24, n ≤ reachBytes) : ∃ m : Im, RepD (· < W.heap.size) W (imD m) v := by
  obtain ⟨cs, rfl, _⟩ := okWide_struct Tryz.underlying24 hv
  obtain ⟨l, ⟨r, rfl⟩, h2⟩ := arg_agg o_im rfl h hs
  exact ⟨r, h2⟩
set_option maxRecDepth 100000 in
theorem a_job (hv : Value.okWide Tryz.prog W .any base 33 v) (h : DataW.Trod enc Tryz.prog W 0 (fun _ => true) true 33 v d p) (hs : ∀ n ∈ d.weights Tryz.prog 33, n ≤ reachBytes) : ∃ (m : Im) (o : Pt) (k : Int) (ps : List Int) (r s : Rc), RepD (· < W.heap.size) W (.agg [.i m.w, .i m.h, .sl 4 (m.p.map pxC), .i o.x, .i o.y, .i k, .sl 1 (ps.map iC), .i r.x, .i r.y, .i r.w, .i r.h, .i s.x, .i s.y, .i s.w, .i s.h]) v := by
  obtain ⟨cs, rfl, _⟩ := okWide_struct Tryz.underlying33 hv
  obtain ⟨l, ⟨m, o, k, ps, r, s, rfl⟩, h2⟩ := arg_agg o_job rfl h hs
  exact ⟨m, o, k, ps, r, s, h2⟩
set_option maxRecDepth 100000 in
theorem a_ints (hv : Value.okWide Tryz.prog W .any base 27 v) (h : DataW.Trod enc Tryz.prog W 0 (fun _ => true) true 27 v d p) (hs : ∀ n ∈ d.weights Tryz.prog 27, n ≤ reachBytes) : ∃ ps : List Int, RepD (· < W.heap.size) W (.sl 1 (ps.map iC)) v := by
  obtain ⟨a, len, cap, rfl⟩ := okWide_slice Tryz.underlying27 hv
  obtain ⟨l, ⟨ps, rfl⟩, h2⟩ := arg_one o_ints rfl h hs
  simp only [RepDs] at h2
  obtain ⟨v, vs, e, h2, _, _⟩ := h2
  simp only [List.cons.injEq] at e
  rw [e.1]
  exact ⟨ps, h2⟩
set_option maxRecDepth 100000 in
theorem a_int (hv : Value.okWide Tryz.prog W .any base 3 v) (_h : DataW.Trod enc Tryz.prog W 0 (fun _ => true) true 3 v d p) (_hs : ∀ n ∈ d.weights Tryz.prog 3, n ≤ reachBytes) : ∃ n : Int, RepD (· < W.heap.size) W (.i n) v := by
  obtain ⟨n, rfl⟩ := okWide_int Tryz.underlying3 hv
  exact ⟨n, by simp only [RepD]⟩
end
set_option maxRecDepth 100000 in
theorem call_of {f : FuncId} {ds : List Eng.D} {vs : Array Value} {W : World} (h : Eng.Fn Tryz.prog f ds (.dat (.b true))) (hr : Eng.RepL (· < W.heap.size) W ds vs.toList) : Calls Tryz.prog f vs W fun e W' => e = .returned (.bool true) ∧ Below W.heap.size W W' := by
  refine (h W vs (fun _ => False) (Eng.RepL.tr (fun b hb => ⟨hb, fun h => h⟩) _ _ hr)).mono fun e W' ⟨v, bs, he, hb, _, _, hv⟩ => ?_
  simp only [Eng.RepR, Eng.RepD] at hv
  exact ⟨by rw [he, hv.2], hb⟩
end Go.Proofs.YtdillkdhpalgcaaGreat

