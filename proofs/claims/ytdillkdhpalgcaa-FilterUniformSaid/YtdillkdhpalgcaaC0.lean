import Derived.Test.YtdillkdhpalgcaaF16
import Derived.Shelf.Sort.AssemblyIn
import Derived.Sort.EveryDepth
import Derived.Sort.OwnSortedInts
set_option linter.unusedSimpArgs false
set_option linter.unusedVariables false
set_option linter.unusedSimpArgs false
set_option linter.unusedVariables false
namespace Go.S16
open Go.RowKit Go.Proofs Go.Eng Go.Rect Go.Shelf
/-! ### The library's sort, by the kit's contract -/
def sren : Ren := ⟨fun x => match x with
    | 189 => 68 | 125 => 78 | 257 => 77 | 128 => 91 | 129 => 92 | 294 => 82 | 295 => 83 | 296 => 84 | 297 => 85 | 298 => 86 | 299 => 87 | 216 => 88 | 300 => 89 | 301 => 90 | 328 => 93 | 329 => 94 | 330 => 95 | 331 => 96 | 332 => 97 | 215 => 98 | 343 => 99 | n => n,
  fun x => match x with
    | 28 => 22 | 3 => 3 | 46 => 96 | 0 => 0 | 51 => 111 | 53 => 97 | 4 => 4 | 183 => 104 | 182 => 103 | 131 => 108 | 5 => 5 | 9 => 9 | 218 => 113 | 222 => 117 | 228 => 120 | 229 => 67 | n => n, fun n => n⟩
theorem slays : Lays.n189 Try.prog sren :=
{ mixed := Eq.refl true, f125 := Eq.trans Try.func78 (congrArg some (Eq.refl (Body.n125 sren))), f128 := Eq.trans Try.func91 (congrArg some (Eq.refl (Body.n128 sren))),
  f129 := Eq.trans Try.func92 (congrArg some (Eq.refl (Body.n129 sren))), f189 := Eq.trans Try.func68 (congrArg some (Eq.refl (Body.n189 sren))), f215 := Eq.trans Try.func98 (congrArg some (Eq.refl (Body.n215 sren))),
  f216 := Eq.trans Try.func88 (congrArg some (Eq.refl (Body.n216 sren))), f257 := Eq.trans Try.func77 (congrArg some (Eq.refl (Body.n257 sren))), f294 := Eq.trans Try.func82 (congrArg some (Eq.refl (Body.n294 sren))),
  f295 := Eq.trans Try.func83 (congrArg some (Eq.refl (Body.n295 sren))), f296 := Eq.trans Try.func84 (congrArg some (Eq.refl (Body.n296 sren))), f297 := Eq.trans Try.func85 (congrArg some (Eq.refl (Body.n297 sren))),
  f298 := Eq.trans Try.func86 (congrArg some (Eq.refl (Body.n298 sren))), f299 := Eq.trans Try.func87 (congrArg some (Eq.refl (Body.n299 sren))), f300 := Eq.trans Try.func89 (congrArg some (Eq.refl (Body.n300 sren))),
  f301 := Eq.trans Try.func90 (congrArg some (Eq.refl (Body.n301 sren))), f328 := Eq.trans Try.func93 (congrArg some (Eq.refl (Body.n328 sren))), f329 := Eq.trans Try.func94 (congrArg some (Eq.refl (Body.n329 sren))),
  f330 := Eq.trans Try.func95 (congrArg some (Eq.refl (Body.n330 sren))), f331 := Eq.trans Try.func96 (congrArg some (Eq.refl (Body.n331 sren))), f332 := Eq.trans Try.func97 (congrArg some (Eq.refl (Body.n332 sren))),
  f343 := Eq.trans Try.func99 (congrArg some (Eq.refl (Body.n343 sren))), t0 := Try.underlying0, a0 := Try.isAgg0, z0 := Try.sizeOf0, v0 := Try.zeroValue0, t3 := Try.underlying3, a3 := Try.isAgg3, z3 := Try.sizeOf3,
  v3 := Try.zeroValue3, t4 := Try.underlying4, a4 := Try.isAgg4, z4 := Try.sizeOf4, v4 := Try.zeroValue4, t5 := Try.underlying5, a5 := Try.isAgg5, z5 := Try.sizeOf5, v5 := Try.zeroValue5, t9 := Try.underlying9,
  a9 := Try.isAgg9, z9 := Try.sizeOf9, v9 := Try.zeroValue9, t28 := Try.underlying22, a28 := Try.isAgg22, z28 := Try.sizeOf22, v28 := Try.zeroValue22, t46 := Try.underlying96, a46 := Try.isAgg96, z46 := Try.sizeOf96,
  v46 := Try.zeroValue96, t51 := Try.underlying111, a51 := Try.isAgg111, z51 := Try.sizeOf111, v51 := Try.zeroValue111, t53 := Try.underlying97, a53 := Try.isAgg97, z53 := Try.sizeOf97, v53 := Try.zeroValue97, t131 := Try.underlying108,
  a131 := Try.isAgg108, z131 := Try.sizeOf108, v131 := Try.zeroValue108, t182 := Try.underlying103, a182 := Try.isAgg103, z182 := Try.sizeOf103, v182 := Try.zeroValue103, t183 := Try.underlying104,
  a183 := Try.isAgg104, z183 := Try.sizeOf104, v183 := Try.zeroValue104, t218 := Try.underlying113, a218 := Try.isAgg113, z218 := Try.sizeOf113, v218 := Try.zeroValue113, t222 := Try.underlying117,
  a222 := Try.isAgg117, z222 := Try.sizeOf117, v222 := Try.zeroValue117, t228 := Try.underlying120, a228 := Try.isAgg120, z228 := Try.sizeOf120, v228 := Try.zeroValue120, t229 := Try.underlying67, a229 := Try.isAgg67,
  z229 := Try.sizeOf67, v229 := Try.zeroValue67 }
theorem dss_ints {ok : Nat → Prop} {w : World} : ∀ {l : List Int} {vs : List Value}, RepDss ok w 1 (l.map iC) vs ↔ vs = l.map (Value.int .i64)
  | [], vs => by simp [RepDss]
  | a :: l, vs => by
    simp only [List.map_cons, RepDss, iC, RepDs, RepD]
    constructor
    · rintro ⟨v1, v2, rfl, hl, ⟨v, vs', rfl, rfl, _, rfl⟩, h⟩
      rw [dss_ints.1 h]; rfl
    · rintro rfl
      exact ⟨[.int .i64 a], l.map (Value.int .i64), rfl, rfl, ⟨_, [], rfl, rfl, rfl, rfl⟩, dss_ints.2 rfl⟩
theorem ssort_fx (l : List Int) (hl : 0 < l.length) : Eng.FnX Try.prog 68 [.mu (.arr 3 1 (l.map iC)) (.arr 3 1 ((sortL l).map iC)) 0 l.length 1] (.tup []) := by
  intro w vs ι hent hinj hargs
  have hg0 : geth (hpI 0 [PX.mu (.arr 3 1 (l.map iC)) (.arr 3 1 ((sortL l).map iC)) 0 l.length 1]) 30000 = some (true, .arr 3 1 (l.map iC)) := by simp [hpI, geth]
  have E := hent 30000 _ hg0
  rcases E with ⟨_, h2⟩ | ⟨b, cap, cur, h1, h2, h3, h4, h5, h6, h7⟩
  · simp at h2; subst h2; simp at hl
  simp only [List.length_map, Nat.mul_one] at h4 h5 h6 h7
  have h7' := dss_ints.1 h7
  simp only [RepX, PX.av, RepA, Nat.add_zero] at hargs
  obtain ⟨v, vs', e1, hv, e2⟩ := hargs
  subst e2
  have hv' : v = .slice (some ⟨b, 0, none⟩) l.length cap := by
    rcases hv with ⟨g1, _, _, g4⟩ | ⟨b', c', g1, g2, g3⟩
    · omega
    · rw [h1] at g1; simp only [Option.some.injEq, Prod.mk.injEq] at g1
      obtain ⟨rfl, rfl⟩ := g1
      simpa using g2
  have evs : vs = #[.slice (some ⟨b, 0, none⟩) l.length cap] := by
    rw [← hv']; apply Array.toList_inj.1; simpa using e1
  subst evs
  have hlen : (sortL l).length = l.length := sortL_len l
  refine (calls_of_every_depth fun D => AnyS.slices_Sort_int_in slays D b 0 cap l w (holds_of_blockI h3 h7') h2 (by omega)).mono ?_
  rintro e w' ⟨rfl, n, os, rfl⟩
  have hg := grownBy_sortedI (w := w) (g := b) (n := n) (os := os) (l.mergeSort fun x y => decide (x ≤ y)).toArray
  obtain ⟨g1, g2, g3, g4, g5⟩ := hg
  have hb := heap_sortedI (w := w) (g := b) (n := n) (os := os) (l.mergeSort fun x y => decide (x ≤ y)).toArray h3
  refine ⟨.tuple #[], rfl, ⟨g1, g2, g3, g4⟩, fun b' hb' => ?_, fun nm x hx => ?_, ?_⟩
  · refine g5 b' hb'.1 fun e => ?_
    simp only [Option.some.injEq] at e
    subst e
    exact hb'.2.1 30000 _ cap hg0 h1
  · simp only [hpO, geth] at hx
    cases hn : 30000 + 0 == nm
    · rw [hn] at hx; cases hx
    · rw [hn, cond_true] at hx
      simp only [beq_iff_eq] at hn; subst hn
      simp only [Option.some.injEq, Prod.mk.injEq, true_and] at hx
      subst hx
      refine .inr ⟨b, cap, _, h1, trivial, hb, ?_, ?_, ⟨h6.1, ?_⟩, ?_⟩
      · simp [Sort.putCells, h4]
      · simp [hlen]; exact h5
      · simp [hlen]; exact h6.2
      · simp only [List.length_map, Nat.mul_one]
        exact dss_ints.2 (take_putCellsI cur (sortL l) (by rw [hlen]; omega))
  · simp only [RepR, RepRs]
    exact ⟨[], rfl, rfl, trivial⟩
end Go.S16

