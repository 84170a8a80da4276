import Derived.Test.YtdillkdhpalgcaaLF
import Derived.Test.YtdillkdhpalgcaaEE
import Derived.Test.YtdillkdhpalgcaaRows
import Derived.ProofKit
import Derived.Lib.SmallJoins
set_option linter.unusedSimpArgs false
set_option linter.unusedVariables false
namespace Go.Proofs.Ytdillkdhpalgcaa
open Go.ChangeShapes Go.WideShapes Go.ChangeAt Go.RowKit Go.Rect Go.Eng

theorem Try.own : ownKnob Try.prog.godebug = none := by kernel_rfl
theorem Try.laidOut : laidOutB Try.prog = true := by kernel_rfl
section
variable {W : World}
set_option maxRecDepth 100000 in
theorem o_int : Opn Try.prog W 3 fun l => ∃ n : Int, (Lit.int .i64 n).wf = true ∧ l = [.i n] := fun H enc fuel cs x h hw => by
  obtain ⟨l, ⟨n, h1, h2⟩, h3⟩ := opn_int Try.underlying3 H enc fuel cs x h hw
  exact ⟨l, ⟨n, h1, h2⟩, h3⟩
set_option maxRecDepth 100000 in
theorem o_pt : Opn Try.prog W 47 fun l => ∃ p : Pt, l = ptC p := fun H enc fuel cs x h hw => by
  obtain ⟨l, hl, h3⟩ := opn_struct (w := W) (Ss := [_, _]) Try.underlying47 (chainB_spec (by kernel_rfl)) ⟨o_int, o_int, trivial⟩ H enc fuel cs x h hw
  obtain ⟨a, b, rfl, ⟨x, _, rfl⟩, c, d, rfl, ⟨y, _, rfl⟩, rfl⟩ := hl
  exact ⟨_, ⟨⟨x, y⟩, rfl⟩, h3⟩
set_option maxRecDepth 100000 in
theorem o_rc : Opn Try.prog W 24 fun l => ∃ p : Rc, l = rcC p := fun H enc fuel cs x h hw => by
  obtain ⟨l, hl, h3⟩ := opn_struct (w := W) (Ss := [_, _, _, _]) Try.underlying24 (chainB_spec (by kernel_rfl)) ⟨o_int, o_int, o_int, o_int, trivial⟩ H enc fuel cs x h hw
  obtain ⟨a, b, rfl, ⟨x, _, rfl⟩, c, d, rfl, ⟨y, _, rfl⟩, e, f, rfl, ⟨z, _, rfl⟩, g, i, rfl, ⟨t, _, rfl⟩, rfl⟩ := hl
  exact ⟨_, ⟨⟨x, y, z, t⟩, rfl⟩, h3⟩
set_option maxRecDepth 100000 in
theorem o_px : Opn Try.prog W 51 fun l => ∃ p : Px, l = pxC p := fun H enc fuel cs x h hw => by
  obtain ⟨l, hl, h3⟩ := opn_struct (w := W) (Ss := [_, _, _, _]) Try.underlying51 (chainB_spec (by kernel_rfl)) ⟨o_int, o_int, o_int, o_int, trivial⟩ H enc fuel cs x h hw
  obtain ⟨a, b, rfl, ⟨x, _, rfl⟩, c, d, rfl, ⟨y, _, rfl⟩, e, f, rfl, ⟨z, _, rfl⟩, g, i, rfl, ⟨t, _, rfl⟩, rfl⟩ := hl
  exact ⟨_, ⟨⟨x, y, z, t⟩, rfl⟩, h3⟩
theorem list_of {α : Type} {f : α → List D} : ∀ {els : List (List D)}, (∀ x ∈ els, ∃ p : α, x = f p) → ∃ l : List α, els = l.map f
  | [], _ => ⟨[], rfl⟩
  | x :: els, h => by
    obtain ⟨p, hp⟩ := h x (by simp)
    obtain ⟨l, hl⟩ := list_of (els := els) fun y hy => h y (by simp [hy])
    exact ⟨p :: l, by rw [hp, hl]; rfl⟩
set_option maxRecDepth 100000 in
theorem o_ints : Opn Try.prog W 22 fun l => ∃ v : List Int, l = [.sl 1 (v.map iC)] := fun H enc fuel cs x h hw => by
  obtain ⟨l, ⟨els, h1, _, rfl⟩, h3⟩ := opn_slice (n := 1) Try.underlying22 (by kernel_rfl) (by decide) (of_decide_eq_true (by kernel_rfl)) o_int H enc fuel cs x h hw
  obtain ⟨v, rfl⟩ := list_of (f := iC) fun x hx => by obtain ⟨n, _, e⟩ := h1 x hx; exact ⟨n, e⟩
  exact ⟨_, ⟨v, rfl⟩, h3⟩
set_option maxRecDepth 100000 in
theorem o_pxs : Opn Try.prog W 34 fun l => ∃ v : List Px, l = [.sl 4 (v.map pxC)] := fun H enc fuel cs x h hw => by
  obtain ⟨l, ⟨els, h1, _, rfl⟩, h3⟩ := opn_slice (n := 4) Try.underlying34 (by kernel_rfl) (by decide) (of_decide_eq_true (by kernel_rfl)) o_px H enc fuel cs x h hw
  obtain ⟨v, rfl⟩ := list_of h1
  exact ⟨_, ⟨v, rfl⟩, h3⟩
set_option maxRecDepth 100000 in
theorem o_im : Opn Try.prog W 36 fun l => ∃ m : Im, l = imC m := fun H enc fuel cs x h hw => by
  obtain ⟨l, hl, h3⟩ := opn_struct (w := W) (Ss := [_, _, _]) Try.underlying36 (chainB_spec (by kernel_rfl)) ⟨o_int, o_int, o_pxs, trivial⟩ H enc fuel cs x h hw
  obtain ⟨a, b, rfl, ⟨x, _, rfl⟩, c, d, rfl, ⟨y, _, rfl⟩, e, f, rfl, ⟨v, rfl⟩, rfl⟩ := hl
  exact ⟨_, ⟨⟨x, y, v⟩, rfl⟩, h3⟩
set_option maxRecDepth 100000 in
theorem o_ask : Opn Try.prog W 26 fun l => ∃ (k : Int) (ps : List Int) (r s : Rc), l = [.i k, .sl 1 (ps.map iC), .i r.x, .i r.y, .i r.w, .i r.h, .i s.x, .i s.y, .i s.w, .i s.h] := fun H enc fuel cs x h hw => by
  obtain ⟨l, hl, h3⟩ := opn_struct (w := W) (Ss := [_, _, _, _]) Try.underlying26 (chainB_spec (by kernel_rfl)) ⟨o_int, o_ints, o_rc, o_rc, trivial⟩ H enc fuel cs x h hw
  obtain ⟨a, b, rfl, ⟨x, _, rfl⟩, c, d, rfl, ⟨y, rfl⟩, e, f, rfl, ⟨z, rfl⟩, g, i, rfl, ⟨t, rfl⟩, rfl⟩ := hl
  exact ⟨_, ⟨x, y, z, t, rfl⟩, h3⟩
set_option maxRecDepth 100000 in
theorem o_part : Opn Try.prog W 38 fun l => ∃ (m : Im) (k : Int) (ps : List Int) (r : Rc), l = [.i m.w, .i m.h, .sl 4 (m.p.map pxC), .i k, .sl 1 (ps.map iC), .i r.x, .i r.y, .i r.w, .i r.h] := fun H enc fuel cs x h hw => by
  obtain ⟨l, hl, h3⟩ := opn_struct (w := W) (Ss := [_, _, _, _]) Try.underlying38 (chainB_spec (by kernel_rfl)) ⟨o_im, o_int, o_ints, o_rc, trivial⟩ H enc fuel cs x h hw
  obtain ⟨a, b, rfl, ⟨m, rfl⟩, c, d, rfl, ⟨k, _, rfl⟩, e, f, rfl, ⟨y, rfl⟩, g, i, rfl, ⟨r, rfl⟩, rfl⟩ := hl
  exact ⟨_, ⟨m, k, y, r, rfl⟩, h3⟩
set_option maxRecDepth 100000 in
theorem o_plain : Opn Try.prog W 53 fun l => ∃ (p : Px) (w h k : Int) (ps : List Int), l = [.i p.r, .i p.g, .i p.b, .i p.a, .i w, .i h, .i k, .sl 1 (ps.map iC)] := fun H enc fuel cs x h hw => by
  obtain ⟨l, hl, h3⟩ := opn_struct (w := W) (Ss := [_, _, _, _, _]) Try.underlying53 (chainB_spec (by kernel_rfl)) ⟨o_px, o_int, o_int, o_int, o_ints, trivial⟩ H enc fuel cs x h hw
  obtain ⟨a, b, rfl, ⟨m, rfl⟩, c, d, rfl, ⟨w, _, rfl⟩, e, f, rfl, ⟨y, _, rfl⟩, g, i, rfl, ⟨k, _, rfl⟩, j, n, rfl, ⟨r, rfl⟩, rfl⟩ := hl
  exact ⟨_, ⟨m, w, y, k, r, rfl⟩, h3⟩
end

theorem sized_mem {H : Type} {P : Program} {ts : List TypeId} {ds : List (DataW H)} (h : (DataW.weightsEach P ts ds).all (· ≤ reachBytes) = true) {j : Nat} {t : TypeId} {d : DataW H} (ht : ts[j]? = some t) (hd : ds[j]? = some d) : ∀ n ∈ d.weights P t, n ≤ reachBytes := by
  intro n hn
  have := List.all_eq_true.1 h n (DataW.weights_mem_each ht hd n hn)
  simpa using this

section
variable {H : Type} {enc : TypeId × Value → H} {W : World} {base : Nat} {v : Value} {d : DataW H} {p : List MemPlace} {t : TypeId}
set_option maxRecDepth 100000 in
theorem arg_one {S : List D → Prop} (ho : Opn Try.prog W t S) (hv : v.cells.toList = [v]) (h : DataW.Trod enc Try.prog W 0 (fun _ => true) true t v d p) (hs : ∀ n ∈ d.weights Try.prog t, n ≤ reachBytes) : ∃ l, S l ∧ RepDs (· < W.heap.size) W l [v] := by
  obtain ⟨fuel, hf⟩ := h
  obtain ⟨l, h1, h2⟩ := ho H enc fuel _ _ hf hs
  rw [hv] at h2
  exact ⟨l, h1, h2⟩
set_option maxRecDepth 100000 in
theorem arg_agg {S : List D → Prop} (ho : Opn Try.prog W t S) {cs : Array Value} (hv : v = .agg cs) (h : DataW.Trod enc Try.prog W 0 (fun _ => true) true t v d p) (hs : ∀ n ∈ d.weights Try.prog t, n ≤ reachBytes) : ∃ l, S l ∧ RepD (· < W.heap.size) W (.agg l) v := by
  obtain ⟨fuel, hf⟩ := h
  obtain ⟨l, h1, h2⟩ := ho H enc fuel _ _ hf hs
  subst hv
  refine ⟨l, h1, ?_⟩
  simp only [RepD]
  exact ⟨cs.toList, by simp, by simpa [Value.cells] using h2⟩
set_option maxRecDepth 100000 in
theorem a_rc (hv : Value.okWide Try.prog W .any base 24 v) (h : DataW.Trod enc Try.prog W 0 (fun _ => true) true 24 v d p) (hs : ∀ n ∈ d.weights Try.prog 24, n ≤ reachBytes) : ∃ r : Rc, RepD (· < W.heap.size) W (rcD r) v := by
  obtain ⟨cs, rfl, _⟩ := okWide_struct Try.underlying24 hv
  obtain ⟨l, ⟨r, rfl⟩, h2⟩ := arg_agg o_rc rfl h hs
  exact ⟨r, h2⟩
set_option maxRecDepth 100000 in
theorem a_px (hv : Value.okWide Try.prog W .any base 51 v) (h : DataW.Trod enc Try.prog W 0 (fun _ => true) true 51 v d p) (hs : ∀ n ∈ d.weights Try.prog 51, n ≤ reachBytes) : ∃ r : Px, RepD (· < W.heap.size) W (pxD r) v := by
  obtain ⟨cs, rfl, _⟩ := okWide_struct Try.underlying51 hv
  obtain ⟨l, ⟨r, rfl⟩, h2⟩ := arg_agg o_px rfl h hs
  exact ⟨r, h2⟩
set_option maxRecDepth 100000 in
theorem a_im (hv : Value.okWide Try.prog W .any base 36 v) (h : DataW.Trod enc Try.prog W 0 (fun _ => true) true 36 v d p) (hs : ∀ n ∈ d.weights Try.prog 36, n ≤ reachBytes) : ∃ m : Im, RepD (· < W.heap.size) W (imD m) v := by
  obtain ⟨cs, rfl, _⟩ := okWide_struct Try.underlying36 hv
  obtain ⟨l, ⟨r, rfl⟩, h2⟩ := arg_agg o_im rfl h hs
  exact ⟨r, h2⟩
set_option maxRecDepth 100000 in
theorem a_ask (hv : Value.okWide Try.prog W .any base 26 v) (h : DataW.Trod enc Try.prog W 0 (fun _ => true) true 26 v d p) (hs : ∀ n ∈ d.weights Try.prog 26, n ≤ reachBytes) : ∃ (k : Int) (ps : List Int) (r s : Rc), RepD (· < W.heap.size) W (.agg [.i k, .sl 1 (ps.map iC), .i r.x, .i r.y, .i r.w, .i r.h, .i s.x, .i s.y, .i s.w, .i s.h]) v := by
  obtain ⟨cs, rfl, _⟩ := okWide_struct Try.underlying26 hv
  obtain ⟨l, ⟨k, ps, r, s, rfl⟩, h2⟩ := arg_agg o_ask rfl h hs
  exact ⟨k, ps, r, s, h2⟩
set_option maxRecDepth 100000 in
theorem a_part (hv : Value.okWide Try.prog W .any base 38 v) (h : DataW.Trod enc Try.prog W 0 (fun _ => true) true 38 v d p) (hs : ∀ n ∈ d.weights Try.prog 38, n ≤ reachBytes) : ∃ (m : Im) (k : Int) (ps : List Int) (r : Rc), RepD (· < W.heap.size) W (.agg [.i m.w, .i m.h, .sl 4 (m.p.map pxC), .i k, .sl 1 (ps.map iC), .i r.x, .i r.y, .i r.w, .i r.h]) v := by
  obtain ⟨cs, rfl, _⟩ := okWide_struct Try.underlying38 hv
  obtain ⟨l, ⟨m, k, ps, r, rfl⟩, h2⟩ := arg_agg o_part rfl h hs
  exact ⟨m, k, ps, r, h2⟩
set_option maxRecDepth 100000 in
theorem a_plain (hv : Value.okWide Try.prog W .any base 53 v) (h : DataW.Trod enc Try.prog W 0 (fun _ => true) true 53 v d p) (hs : ∀ n ∈ d.weights Try.prog 53, n ≤ reachBytes) : ∃ (q : Px) (w h k : Int) (ps : List Int), RepD (· < W.heap.size) W (.agg [.i q.r, .i q.g, .i q.b, .i q.a, .i w, .i h, .i k, .sl 1 (ps.map iC)]) v := by
  obtain ⟨cs, rfl, _⟩ := okWide_struct Try.underlying53 hv
  obtain ⟨l, ⟨q, w, y, k, ps, rfl⟩, h2⟩ := arg_agg o_plain rfl h hs
  exact ⟨q, w, y, k, ps, h2⟩
set_option maxRecDepth 100000 in
theorem a_int (hv : Value.okWide Try.prog W .any base 3 v) (_h : DataW.Trod enc Try.prog W 0 (fun _ => true) true 3 v d p) (_hs : ∀ n ∈ d.weights Try.prog 3, n ≤ reachBytes) : ∃ n : Int, RepD (· < W.heap.size) W (.i n) v := by
  obtain ⟨n, rfl⟩ := okWide_int Try.underlying3 hv
  exact ⟨n, by simp only [RepD]⟩
end
set_option maxRecDepth 100000 in
theorem call_of {f : FuncId} {ds : List Eng.D} {vs : Array Value} {W : World} (h : Eng.Fn Try.prog f ds (.dat (.b true))) (hr : Eng.RepL (· < W.heap.size) W ds vs.toList) : Calls Try.prog f vs W fun e W' => e = .returned (.bool true) ∧ Below W.heap.size W W' := by
  refine (h W vs (fun _ => False) (Eng.RepL.tr (fun b hb => ⟨hb, fun h => h⟩) _ _ hr)).mono fun e W' ⟨v, bs, he, hb, _, _, hv⟩ => ?_
  simp only [Eng.RepR, Eng.RepD] at hv
  exact ⟨by rw [he, hv.2], hb⟩
end Go.Proofs.Ytdillkdhpalgcaa

