import Derived.Test.YtdillkdhpalgcaaGreatF16
import Derived.Shelf.Sort.AssemblyIn
import Derived.Sort.EveryDepth
import Derived.Sort.OwnSortedInts
set_option linter.unusedSimpArgs false
set_option linter.unusedVariables false
set_option linter.unusedSimpArgs false
set_option linter.unusedVariables false
namespace Go.S16
open Go.RowKit Go.Proofs Go.Eng Go.Rect Go.Shelf
def sren : Ren := ⟨fun x => match x with
    | 189 => 68 | 125 => 91 | 257 => 90 | 128 => 111 | 129 => 112 | 294 => 102 | 295 => 103 | 296 => 104 | 297 => 105 | 298 => 106 | 299 => 107 | 216 => 108 | 300 => 109 | 301 => 110 | 328 => 113 | 329 => 114 | 330 => 115 | 331 => 116 | 332 => 117 | 215 => 118 | 343 => 119 | n => n,
  fun x => match x with
    | 28 => 27 | 3 => 3 | 46 => 101 | 0 => 0 | 51 => 118 | 53 => 102 | 4 => 4 | 183 => 111 | 182 => 110 | 131 => 115 | 5 => 5 | 9 => 9 | 218 => 120 | 222 => 124 | 228 => 127 | 229 => 92 | n => n, fun n => n⟩
theorem slays : Lays.n189 Tryz.prog sren :=
{ mixed := Eq.refl true, f125 := Eq.trans Tryz.func91 (congrArg some (Eq.refl (Body.n125 sren))), f128 := Eq.trans Tryz.func111 (congrArg some (Eq.refl (Body.n128 sren))),
  f129 := Eq.trans Tryz.func112 (congrArg some (Eq.refl (Body.n129 sren))), f189 := Eq.trans Tryz.func68 (congrArg some (Eq.refl (Body.n189 sren))), f215 := Eq.trans Tryz.func118 (congrArg some (Eq.refl (Body.n215 sren))),
  f216 := Eq.trans Tryz.func108 (congrArg some (Eq.refl (Body.n216 sren))), f257 := Eq.trans Tryz.func90 (congrArg some (Eq.refl (Body.n257 sren))), f294 := Eq.trans Tryz.func102 (congrArg some (Eq.refl (Body.n294 sren))),
  f295 := Eq.trans Tryz.func103 (congrArg some (Eq.refl (Body.n295 sren))), f296 := Eq.trans Tryz.func104 (congrArg some (Eq.refl (Body.n296 sren))), f297 := Eq.trans Tryz.func105 (congrArg some (Eq.refl (Body.n297 sren))),
  f298 := Eq.trans Tryz.func106 (congrArg some (Eq.refl (Body.n298 sren))), f299 := Eq.trans Tryz.func107 (congrArg some (Eq.refl (Body.n299 sren))), f300 := Eq.trans Tryz.func109 (congrArg some (Eq.refl (Body.n300 sren))),
  f301 := Eq.trans Tryz.func110 (congrArg some (Eq.refl (Body.n301 sren))), f328 := Eq.trans Tryz.func113 (congrArg some (Eq.refl (Body.n328 sren))), f329 := Eq.trans Tryz.func114 (congrArg some (Eq.refl (Body.n329 sren))),
  f330 := Eq.trans Tryz.func115 (congrArg some (Eq.refl (Body.n330 sren))), f331 := Eq.trans Tryz.func116 (congrArg some (Eq.refl (Body.n331 sren))), f332 := Eq.trans Tryz.func117 (congrArg some (Eq.refl (Body.n332 sren))),
  f343 := Eq.trans Tryz.func119 (congrArg some (Eq.refl (Body.n343 sren))), t0 := Tryz.underlying0, a0 := Tryz.isAgg0, z0 := Tryz.sizeOf0, v0 := Tryz.zeroValue0, t3 := Tryz.underlying3, a3 := Tryz.isAgg3, z3 := Tryz.sizeOf3,
  v3 := Tryz.zeroValue3, t4 := Tryz.underlying4, a4 := Tryz.isAgg4, z4 := Tryz.sizeOf4, v4 := Tryz.zeroValue4, t5 := Tryz.underlying5, a5 := Tryz.isAgg5, z5 := Tryz.sizeOf5, v5 := Tryz.zeroValue5, t9 := Tryz.underlying9,
  a9 := Tryz.isAgg9, z9 := Tryz.sizeOf9, v9 := Tryz.zeroValue9, t28 := Tryz.underlying27, a28 := Tryz.isAgg27, z28 := Tryz.sizeOf27, v28 := Tryz.zeroValue27, t46 := Tryz.underlying101, a46 := Tryz.isAgg101, z46 := Tryz.sizeOf101,
  v46 := Tryz.zeroValue101, t51 := Tryz.underlying118, a51 := Tryz.isAgg118, z51 := Tryz.sizeOf118, v51 := Tryz.zeroValue118, t53 := Tryz.underlying102, a53 := Tryz.isAgg102, z53 := Tryz.sizeOf102, v53 := Tryz.zeroValue102, t131 := Tryz.underlying115,
  a131 := Tryz.isAgg115, z131 := Tryz.sizeOf115, v131 := Tryz.zeroValue115, t182 := Tryz.underlying110, a182 := Tryz.isAgg110, z182 := Tryz.sizeOf110, v182 := Tryz.zeroValue110, t183 := Tryz.underlying111,
  a183 := Tryz.isAgg111, z183 := Tryz.sizeOf111, v183 := Tryz.zeroValue111, t218 := Tryz.underlying120, a218 := Tryz.isAgg120, z218 := Tryz.sizeOf120, v218 := Tryz.zeroValue120, t222 := Tryz.underlying124,
  a222 := Tryz.isAgg124, z222 := Tryz.sizeOf124, v222 := Tryz.zeroValue124, t228 := Tryz.underlying127, a228 := Tryz.isAgg127, z228 := Tryz.sizeOf127, v228 := Tryz.zeroValue127, t229 := Tryz.underlying92, a229 := Tryz.isAgg92,
  z229 := Tryz.sizeOf92, v229 := Tryz.zeroValue92 }
theorem dss_ints {ok : Nat → Prop} {w : World} : ∀ {l : List Int} {vs : List Value}, RepDss ok w 1 (l.map iC) vs ↔ vs = l.map (Value.int .i64)
  | [], vs => by simp [RepDss]
  | a :: l, vs => by
    simp only [List.map_cons, RepDss, iC, RepDs, RepD]
    constructor
    · rintro ⟨v1, v2, rfl, hl, ⟨v, vs', rfl, rfl, _, rfl⟩, h⟩
      rw [dss_ints.1 h]; rfl
    · rintro rfl
      exact ⟨[.int .i64 a], l.map (Value.int .i64), rfl, rfl, ⟨_, [], rfl, rfl, rfl, rfl⟩, dss_ints.2 rfl⟩
theorem ssort_fx (l : List Int) (hl : 0 < l.length) : Eng.FnX Tryz.prog 68 [.mu (.arr 3 1 (l.map iC)) (.arr 3 1 ((sortL l).map iC)) 0 l.length 1] (.tup []) := by
  intro w vs ι hent hinj hargs
  have hg0 : geth (hpI 0 [PX.mu (.arr 3 1 (l.map iC)) (.arr 3 1 ((sortL l).map iC)) 0 l.length 1]) 30000 = some (true, .arr 3 1 (l.map iC)) := by simp [hpI, geth]
  have E := hent 30000 _ hg0
  rcases E with ⟨_, h2⟩ | ⟨b, cap, cur, h1, h2, h3, h4, h5, h6, h7⟩
  · simp at h2; subst h2; simp at hl
  simp only [List.length_map, Nat.mul_one] at h4 h5 h6 h7
  have h7' := dss_ints.1 h7
  simp only [RepX, PX.av, RepA, Nat.add_zero] at hargs
  obtain ⟨v, vs', e1, hv, e2⟩ := hargs
  subst e2
  have hv' : v = .slice (some ⟨b, 0, none⟩) l.length cap := by
    rcases hv with ⟨g1, _, _, g4⟩ | ⟨b', c', g1, g2, g3⟩
    · omega
    · rw [h1] at g1; simp only [Option.some.injEq, Prod.mk.injEq] at g1
      obtain ⟨rfl, rfl⟩ := g1
      simpa using g2
  have evs : vs = #[.slice (some ⟨b, 0, none⟩) l.length cap] := by
    rw [← hv']; apply Array.toList_inj.1; simpa using e1
  subst evs
  have hlen : (sortL l).length = l.length := sortL_len l
  refine (calls_of_every_depth fun D => AnyS.slices_Sort_int_in slays D b 0 cap l w (holds_of_blockI h3 h7') h2 (by omega)).mono ?_
  rintro e w' ⟨rfl, n, os, rfl⟩
  have hg := grownBy_sortedI (w := w) (g := b) (n := n) (os := os) (l.mergeSort fun x y => decide (x ≤ y)).toArray
  obtain ⟨g1, g2, g3, g4, g5⟩ := hg
  have hb := heap_sortedI (w := w) (g := b) (n := n) (os := os) (l.mergeSort fun x y => decide (x ≤ y)).toArray h3
  refine ⟨.tuple #[], rfl, ⟨g1, g2, g3, g4⟩, fun b' hb' => ?_, fun nm x hx => ?_, ?_⟩
  · refine g5 b' hb'.1 fun e => ?_
    simp only [Option.some.injEq] at e
    subst e
    exact hb'.2.1 30000 _ cap hg0 h1
  · simp only [hpO, geth] at hx
    cases hn : 30000 + 0 == nm
    · rw [hn] at hx; cases hx
    · rw [hn, cond_true] at hx
      simp only [beq_iff_eq] at hn; subst hn
      simp only [Option.some.injEq, Prod.mk.injEq, true_and] at hx
      subst hx
      refine .inr ⟨b, cap, _, h1, trivial, hb, ?_, ?_, ⟨h6.1, ?_⟩, ?_⟩
      · simp [Sort.putCells, h4]
      · simp [hlen]; exact h5
      · simp [hlen]; exact h6.2
      · simp only [List.length_map, Nat.mul_one]
        exact dss_ints.2 (take_putCellsI cur (sortL l) (by rw [hlen]; omega))
  · simp only [RepR, RepRs]
    exact ⟨[], rfl, rfl, trivial⟩
end Go.S16

