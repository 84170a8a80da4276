import Derived.Test.YtfpimhkkknfmcaaW6
import Derived.Test.YtfpimhkkknfmcaaRows
import Derived.ProofKit
import Derived.Lib.SmallJoins
namespace Go.Proofs.Ytfpimhkkknfmcaa
open Go.ChangeShapes Go.WideShapes Go.ChangeAt Go.RowKit Go.Rect

theorem Try.own : ownKnob Try.prog.godebug = none := by kernel_rfl
theorem Try.laidOut : laidOutB Try.prog = true := by kernel_rfl

section
variable {H : Type} {enc : TypeId × Value → H} {W : World} {base : Nat} {v : Value} {d : DataW H} {p : List MemPlace}
theorem open_rc (hv : Value.okWide Try.prog W .any base 23 v) (h : DataW.Trod enc Try.prog W 0 (fun _ => true) true 23 v d p) : ∃ r : Rc, v = .agg #[.int .i64 r.x, .int .i64 r.y, .int .i64 r.w, .int .i64 r.h] := by
  obtain ⟨v0, v1, v2, v3, y0, y1, y2, y3, n, rfl, _, _, h0, h1, h2, h3⟩ := Go.Joins.open_agg4 Try.underlying23 (by kernel_rfl) (by kernel_rfl) hv h
  obtain ⟨a, e0, _, _⟩ := DataW.trod_int Try.underlying3 h0
  obtain ⟨b, e1, _, _⟩ := DataW.trod_int Try.underlying3 h1
  obtain ⟨c, e2, _, _⟩ := DataW.trod_int Try.underlying3 h2
  obtain ⟨e, e3, _, _⟩ := DataW.trod_int Try.underlying3 h3
  simp only [List.cons.injEq, and_true] at e0 e1 e2 e3
  subst e0 e1 e2 e3
  exact ⟨⟨a, b, c, e⟩, rfl⟩
theorem open_pt (hv : Value.okWide Try.prog W .any base 25 v) (h : DataW.Trod enc Try.prog W 0 (fun _ => true) true 25 v d p) : ∃ r : Pt, v = .agg #[.int .i64 r.x, .int .i64 r.y] := by
  obtain ⟨v0, v1, y0, y1, n, rfl, _, _, h0, h1⟩ := Go.Joins.open_agg2 Try.underlying25 (by kernel_rfl) (by kernel_rfl) hv h
  obtain ⟨a, e0, _, _⟩ := DataW.trod_int Try.underlying3 h0
  obtain ⟨b, e1, _, _⟩ := DataW.trod_int Try.underlying3 h1
  simp only [List.cons.injEq, and_true] at e0 e1
  subst e0 e1
  exact ⟨⟨a, b⟩, rfl⟩
end

theorem rep_rc {ok : Nat → Prop} {W : World} (r : Rc) : Eng.RepD ok W (.agg (rcC r)) (.agg #[.int .i64 r.x, .int .i64 r.y, .int .i64 r.w, .int .i64 r.h]) := by
  simp only [rcC, Eng.RepD]
  refine ⟨_, rfl, ?_⟩
  simp only [Eng.RepDs, Eng.RepD]
  exact ⟨_, _, rfl, rfl, rfl, _, _, rfl, rfl, rfl, _, _, rfl, rfl, rfl, _, _, rfl, rfl, rfl, rfl⟩
theorem rep_pt {ok : Nat → Prop} {W : World} (r : Pt) : Eng.RepD ok W (.agg (ptC r)) (.agg #[.int .i64 r.x, .int .i64 r.y]) := by
  simp only [ptC, Eng.RepD]
  refine ⟨_, rfl, ?_⟩
  simp only [Eng.RepDs, Eng.RepD]
  exact ⟨_, _, rfl, rfl, rfl, _, _, rfl, rfl, rfl, rfl⟩
theorem call_of {f : FuncId} {ds : List Eng.D} {vs : Array Value} {W : World} (h : Eng.Fn Try.prog f ds (.dat (.b true))) (hr : Eng.RepL (· < W.heap.size) W ds vs.toList) : Calls Try.prog f vs W fun e W' => e = .returned (.bool true) ∧ Below W.heap.size W W' := by
  refine (h W vs hr).mono fun e W' ⟨v, bs, he, hb, _, _, hv⟩ => ?_
  simp only [Eng.RepR, Eng.RepD] at hv
  exact ⟨by rw [he, hv.2], hb⟩

theorem open_int {H : Type} {enc : TypeId × Value → H} {W : World} {base : Nat} {v : Value} {d : DataW H} {p : List MemPlace} (hv : Value.okWide Try.prog W .any base 3 v) (_h : DataW.Trod enc Try.prog W 0 (fun _ => true) true 3 v d p) : ∃ n : Int, v = .int .i64 n :=
  okWide_int Try.underlying3 hv
theorem rep_int {ok : Nat → Prop} {W : World} (n : Int) : Eng.RepD ok W (.i n) (.int .i64 n) := by simp only [Eng.RepD]
end Go.Proofs.Ytfpimhkkknfmcaa
