import Derived.Test.YtnbeigcjhpldmaaGreatF03
import Derived.Test.YtnbeigcjhpldmaaGreatLF
import Derived.Shelf.Sort.AssemblyIn
import Derived.Shelf.Slices.In.SortNone
import Derived.Sort.EveryDepth
import Derived.Tactics
import Derived.Tactics2
import Derived.StillTactics
import Derived.OwnWalk
import Derived.Laws.Pointers
import Derived.Deep.RegionHeld3
set_option linter.unusedSimpArgs false
set_option linter.unusedVariables false
set_option linter.unusedSimpArgs false
set_option linter.unusedVariables false
namespace Go.S03
open Go.RowKit Go.Proofs Go.Eng Go.Rect Go.Shelf
def slaysR : Shelf.Ren := {
  f := (fun x => match x with
    | 189 => 77
    | 125 => 35
    | 257 => 82
    | 128 => 63
    | 129 => 64
    | 294 => 84
    | 295 => 85
    | 296 => 86
    | 297 => 87
    | 298 => 88
    | 299 => 89
    | 216 => 90
    | 300 => 91
    | 301 => 92
    | 328 => 101
    | 329 => 73
    | 330 => 74
    | 331 => 102
    | 332 => 103
    | 215 => 36
    | 343 => 107
    | n => n),
  t := (fun x => match x with
    | 28 => 54
    | 3 => 3
    | 46 => 53
    | 0 => 0
    | 51 => 79
    | 53 => 81
    | 4 => 4
    | 183 => 72
    | 182 => 71
    | 131 => 76
    | 5 => 5
    | 9 => 9
    | 218 => 88
    | 222 => 92
    | 228 => 97
    | 229 => 59
    | n => n),
  g := fun n => n }
theorem slays : Lays.n189 Tryz.prog slaysR := {
  mixed := Eq.refl Bool.true,
  f125 := Eq.trans Tryz.func35 (congrArg Option.some (Eq.refl (Body.n125 slaysR))),
  f128 := Eq.trans Tryz.func63 (congrArg Option.some (Eq.refl (Body.n128 slaysR))),
  f129 := Eq.trans Tryz.func64 (congrArg Option.some (Eq.refl (Body.n129 slaysR))),
  f189 := Eq.trans Tryz.func77 (congrArg Option.some (Eq.refl (Body.n189 slaysR))),
  f215 := Eq.trans Tryz.func36 (congrArg Option.some (Eq.refl (Body.n215 slaysR))),
  f216 := Eq.trans Tryz.func90 (congrArg Option.some (Eq.refl (Body.n216 slaysR))),
  f257 := Eq.trans Tryz.func82 (congrArg Option.some (Eq.refl (Body.n257 slaysR))),
  f294 := Eq.trans Tryz.func84 (congrArg Option.some (Eq.refl (Body.n294 slaysR))),
  f295 := Eq.trans Tryz.func85 (congrArg Option.some (Eq.refl (Body.n295 slaysR))),
  f296 := Eq.trans Tryz.func86 (congrArg Option.some (Eq.refl (Body.n296 slaysR))),
  f297 := Eq.trans Tryz.func87 (congrArg Option.some (Eq.refl (Body.n297 slaysR))),
  f298 := Eq.trans Tryz.func88 (congrArg Option.some (Eq.refl (Body.n298 slaysR))),
  f299 := Eq.trans Tryz.func89 (congrArg Option.some (Eq.refl (Body.n299 slaysR))),
  f300 := Eq.trans Tryz.func91 (congrArg Option.some (Eq.refl (Body.n300 slaysR))),
  f301 := Eq.trans Tryz.func92 (congrArg Option.some (Eq.refl (Body.n301 slaysR))),
  f328 := Eq.trans Tryz.func101 (congrArg Option.some (Eq.refl (Body.n328 slaysR))),
  f329 := Eq.trans Tryz.func73 (congrArg Option.some (Eq.refl (Body.n329 slaysR))),
  f330 := Eq.trans Tryz.func74 (congrArg Option.some (Eq.refl (Body.n330 slaysR))),
  f331 := Eq.trans Tryz.func102 (congrArg Option.some (Eq.refl (Body.n331 slaysR))),
  f332 := Eq.trans Tryz.func103 (congrArg Option.some (Eq.refl (Body.n332 slaysR))),
  f343 := Eq.trans Tryz.func107 (congrArg Option.some (Eq.refl (Body.n343 slaysR))),
  t0 := Tryz.underlying0,
  a0 := Tryz.isAgg0,
  z0 := Tryz.sizeOf0,
  v0 := Tryz.zeroValue0,
  t3 := Tryz.underlying3,
  a3 := Tryz.isAgg3,
  z3 := Tryz.sizeOf3,
  v3 := Tryz.zeroValue3,
  t4 := Tryz.underlying4,
  a4 := Tryz.isAgg4,
  z4 := Tryz.sizeOf4,
  v4 := Tryz.zeroValue4,
  t5 := Tryz.underlying5,
  a5 := Tryz.isAgg5,
  z5 := Tryz.sizeOf5,
  v5 := Tryz.zeroValue5,
  t9 := Tryz.underlying9,
  a9 := Tryz.isAgg9,
  z9 := Tryz.sizeOf9,
  v9 := Tryz.zeroValue9,
  t28 := Tryz.underlying54,
  a28 := Tryz.isAgg54,
  z28 := Tryz.sizeOf54,
  v28 := Tryz.zeroValue54,
  t46 := Tryz.underlying53,
  a46 := Tryz.isAgg53,
  z46 := Tryz.sizeOf53,
  v46 := Tryz.zeroValue53,
  t51 := Tryz.underlying79,
  a51 := Tryz.isAgg79,
  z51 := Tryz.sizeOf79,
  v51 := Tryz.zeroValue79,
  t53 := Tryz.underlying81,
  a53 := Tryz.isAgg81,
  z53 := Tryz.sizeOf81,
  v53 := Tryz.zeroValue81,
  t131 := Tryz.underlying76,
  a131 := Tryz.isAgg76,
  z131 := Tryz.sizeOf76,
  v131 := Tryz.zeroValue76,
  t182 := Tryz.underlying71,
  a182 := Tryz.isAgg71,
  z182 := Tryz.sizeOf71,
  v182 := Tryz.zeroValue71,
  t183 := Tryz.underlying72,
  a183 := Tryz.isAgg72,
  z183 := Tryz.sizeOf72,
  v183 := Tryz.zeroValue72,
  t218 := Tryz.underlying88,
  a218 := Tryz.isAgg88,
  z218 := Tryz.sizeOf88,
  v218 := Tryz.zeroValue88,
  t222 := Tryz.underlying92,
  a222 := Tryz.isAgg92,
  z222 := Tryz.sizeOf92,
  v222 := Tryz.zeroValue92,
  t228 := Tryz.underlying97,
  a228 := Tryz.isAgg97,
  z228 := Tryz.sizeOf97,
  v228 := Tryz.zeroValue97,
  t229 := Tryz.underlying59,
  a229 := Tryz.isAgg59,
  z229 := Tryz.sizeOf59,
  v229 := Tryz.zeroValue59 }
def rlaysR : Shelf.Ren := {
  f := (fun x => match x with
    | 6 => 79
    | 15 => 35
    | 14 => 83
    | 28 => 63
    | 29 => 64
    | 20 => 93
    | 21 => 94
    | 22 => 95
    | 23 => 96
    | 24 => 97
    | 25 => 98
    | 26 => 99
    | 27 => 100
    | 46 => 104
    | 47 => 73
    | 48 => 74
    | 49 => 105
    | 50 => 106
    | 57 => 108
    | n => n),
  t := (fun x => match x with
    | 22 => 63
    | 24 => 65
    | 25 => 96
    | 3 => 3
    | 39 => 53
    | 0 => 0
    | 53 => 79
    | 55 => 81
    | 4 => 4
    | 46 => 72
    | 45 => 71
    | 50 => 76
    | 5 => 5
    | 9 => 9
    | 66 => 88
    | 70 => 92
    | 76 => 97
    | 77 => 59
    | n => n),
  g := fun n => n }
theorem rlays : SlLaysF0.n6 Tryz.prog rlaysR := {
  mixed := Eq.refl Bool.true,
  f6 := Exists.intro "slices.SortFunc[[]imageeditor/region.run,imageeditor/region.run]" ⟨of_decide_eq_true (id (Eq.refl Bool.true)), Eq.trans Tryz.func79 (congrArg Option.some (Eq.refl { SlBodyF.n6 rlaysR with name := "slices.SortFunc[[]imageeditor/region.run,imageeditor/region.run]" }))⟩,
  f14 := Exists.intro "slices.pdqsortCmpFunc[imageeditor/region.run]" ⟨of_decide_eq_true (id (Eq.refl Bool.true)), Eq.trans Tryz.func83 (congrArg Option.some (Eq.refl { SlBodyF.n14 rlaysR with name := "slices.pdqsortCmpFunc[imageeditor/region.run]" }))⟩,
  f15 := Eq.trans Tryz.func35 (congrArg Option.some (Eq.refl (SlBodyF.n15 rlaysR))),
  f20 := Exists.intro "slices.insertionSortCmpFunc[imageeditor/region.run]" ⟨of_decide_eq_true (id (Eq.refl Bool.true)), Eq.trans Tryz.func93 (congrArg Option.some (Eq.refl { SlBodyF.n20 rlaysR with name := "slices.insertionSortCmpFunc[imageeditor/region.run]" }))⟩,
  f21 := Exists.intro "slices.heapSortCmpFunc[imageeditor/region.run]" ⟨of_decide_eq_true (id (Eq.refl Bool.true)), Eq.trans Tryz.func94 (congrArg Option.some (Eq.refl { SlBodyF.n21 rlaysR with name := "slices.heapSortCmpFunc[imageeditor/region.run]" }))⟩,
  f22 := Exists.intro "slices.breakPatternsCmpFunc[imageeditor/region.run]" ⟨of_decide_eq_true (id (Eq.refl Bool.true)), Eq.trans Tryz.func95 (congrArg Option.some (Eq.refl { SlBodyF.n22 rlaysR with name := "slices.breakPatternsCmpFunc[imageeditor/region.run]" }))⟩,
  f23 := Exists.intro "slices.choosePivotCmpFunc[imageeditor/region.run]" ⟨of_decide_eq_true (id (Eq.refl Bool.true)), Eq.trans Tryz.func96 (congrArg Option.some (Eq.refl { SlBodyF.n23 rlaysR with name := "slices.choosePivotCmpFunc[imageeditor/region.run]" }))⟩,
  f24 := Exists.intro "slices.reverseRangeCmpFunc[imageeditor/region.run]" ⟨of_decide_eq_true (id (Eq.refl Bool.true)), Eq.trans Tryz.func97 (congrArg Option.some (Eq.refl { SlBodyF.n24 rlaysR with name := "slices.reverseRangeCmpFunc[imageeditor/region.run]" }))⟩,
  f25 := Exists.intro "slices.partialInsertionSortCmpFunc[imageeditor/region.run]" ⟨of_decide_eq_true (id (Eq.refl Bool.true)), Eq.trans Tryz.func98 (congrArg Option.some (Eq.refl { SlBodyF.n25 rlaysR with name := "slices.partialInsertionSortCmpFunc[imageeditor/region.run]" }))⟩,
  f26 := Exists.intro "slices.partitionEqualCmpFunc[imageeditor/region.run]" ⟨of_decide_eq_true (id (Eq.refl Bool.true)), Eq.trans Tryz.func99 (congrArg Option.some (Eq.refl { SlBodyF.n26 rlaysR with name := "slices.partitionEqualCmpFunc[imageeditor/region.run]" }))⟩,
  f27 := Exists.intro "slices.partitionCmpFunc[imageeditor/region.run]" ⟨of_decide_eq_true (id (Eq.refl Bool.true)), Eq.trans Tryz.func100 (congrArg Option.some (Eq.refl { SlBodyF.n27 rlaysR with name := "slices.partitionCmpFunc[imageeditor/region.run]" }))⟩,
  f28 := Eq.trans Tryz.func63 (congrArg Option.some (Eq.refl (SlBodyF.n28 rlaysR))),
  f29 := Eq.trans Tryz.func64 (congrArg Option.some (Eq.refl (SlBodyF.n29 rlaysR))),
  f46 := Exists.intro "slices.siftDownCmpFunc[imageeditor/region.run]" ⟨of_decide_eq_true (id (Eq.refl Bool.true)), Eq.trans Tryz.func104 (congrArg Option.some (Eq.refl { SlBodyF.n46 rlaysR with name := "slices.siftDownCmpFunc[imageeditor/region.run]" }))⟩,
  f47 := Eq.trans Tryz.func73 (congrArg Option.some (Eq.refl (SlBodyF.n47 rlaysR))),
  f48 := Eq.trans Tryz.func74 (congrArg Option.some (Eq.refl (SlBodyF.n48 rlaysR))),
  f49 := Exists.intro "slices.medianAdjacentCmpFunc[imageeditor/region.run]" ⟨of_decide_eq_true (id (Eq.refl Bool.true)), Eq.trans Tryz.func105 (congrArg Option.some (Eq.refl { SlBodyF.n49 rlaysR with name := "slices.medianAdjacentCmpFunc[imageeditor/region.run]" }))⟩,
  f50 := Exists.intro "slices.medianCmpFunc[imageeditor/region.run]" ⟨of_decide_eq_true (id (Eq.refl Bool.true)), Eq.trans Tryz.func106 (congrArg Option.some (Eq.refl { SlBodyF.n50 rlaysR with name := "slices.medianCmpFunc[imageeditor/region.run]" }))⟩,
  f57 := Exists.intro "slices.order2CmpFunc[imageeditor/region.run]" ⟨of_decide_eq_true (id (Eq.refl Bool.true)), Eq.trans Tryz.func108 (congrArg Option.some (Eq.refl { SlBodyF.n57 rlaysR with name := "slices.order2CmpFunc[imageeditor/region.run]" }))⟩,
  t0 := Tryz.underlying0,
  a0 := Tryz.isAgg0,
  z0 := Tryz.sizeOf0,
  v0 := Tryz.zeroValue0,
  t3 := Tryz.underlying3,
  a3 := Tryz.isAgg3,
  z3 := Tryz.sizeOf3,
  v3 := Tryz.zeroValue3,
  t4 := Tryz.underlying4,
  a4 := Tryz.isAgg4,
  z4 := Tryz.sizeOf4,
  v4 := Tryz.zeroValue4,
  t5 := Tryz.underlying5,
  a5 := Tryz.isAgg5,
  z5 := Tryz.sizeOf5,
  v5 := Tryz.zeroValue5,
  t9 := Tryz.underlying9,
  a9 := Tryz.isAgg9,
  z9 := Tryz.sizeOf9,
  v9 := Tryz.zeroValue9,
  t22 := Tryz.underlying63,
  a22 := Tryz.isAgg63,
  z22 := Tryz.sizeOf63,
  v22 := Tryz.zeroValue63,
  t25 := Tryz.underlying96,
  a25 := Tryz.isAgg96,
  z25 := Tryz.sizeOf96,
  v25 := Tryz.zeroValue96,
  t39 := Tryz.underlying53,
  a39 := Tryz.isAgg53,
  z39 := Tryz.sizeOf53,
  v39 := Tryz.zeroValue53,
  t45 := Tryz.underlying71,
  a45 := Tryz.isAgg71,
  z45 := Tryz.sizeOf71,
  v45 := Tryz.zeroValue71,
  t46 := Tryz.underlying72,
  a46 := Tryz.isAgg72,
  z46 := Tryz.sizeOf72,
  v46 := Tryz.zeroValue72,
  t50 := Tryz.underlying76,
  a50 := Tryz.isAgg76,
  z50 := Tryz.sizeOf76,
  v50 := Tryz.zeroValue76,
  t53 := Tryz.underlying79,
  a53 := Tryz.isAgg79,
  z53 := Tryz.sizeOf79,
  v53 := Tryz.zeroValue79,
  t55 := Tryz.underlying81,
  a55 := Tryz.isAgg81,
  z55 := Tryz.sizeOf81,
  v55 := Tryz.zeroValue81,
  t66 := Tryz.underlying88,
  a66 := Tryz.isAgg88,
  z66 := Tryz.sizeOf88,
  v66 := Tryz.zeroValue88,
  t70 := Tryz.underlying92,
  a70 := Tryz.isAgg92,
  z70 := Tryz.sizeOf92,
  v70 := Tryz.zeroValue92,
  t76 := Tryz.underlying97,
  a76 := Tryz.isAgg97,
  z76 := Tryz.sizeOf97,
  v76 := Tryz.zeroValue97,
  t77 := Tryz.underlying59,
  a77 := Tryz.isAgg59,
  z77 := Tryz.sizeOf59,
  v77 := Tryz.zeroValue59 }
def playsR : Shelf.Ren := {
  f := (fun x => match x with
    | 6 => 12
    | 15 => 35
    | 14 => 34
    | 28 => 63
    | 29 => 64
    | 20 => 55
    | 21 => 56
    | 22 => 57
    | 23 => 58
    | 24 => 59
    | 25 => 60
    | 26 => 61
    | 27 => 62
    | 46 => 72
    | 47 => 73
    | 48 => 74
    | 49 => 75
    | 50 => 76
    | 57 => 81
    | n => n),
  t := (fun x => match x with
    | 22 => 23
    | 24 => 26
    | 25 => 39
    | 3 => 3
    | 39 => 53
    | 0 => 0
    | 53 => 79
    | 55 => 81
    | 4 => 4
    | 46 => 72
    | 45 => 71
    | 50 => 76
    | 5 => 5
    | 9 => 9
    | 66 => 88
    | 70 => 92
    | 76 => 97
    | 77 => 59
    | n => n),
  g := fun n => n }
theorem plays : SlLaysF0.n6 Tryz.prog playsR := {
  mixed := Eq.refl Bool.true,
  f6 := Exists.intro "slices.SortFunc[[]imageeditor/api.Point,imageeditor/api.Point]" ⟨of_decide_eq_true (id (Eq.refl Bool.true)), Eq.trans Tryz.func12 (congrArg Option.some (Eq.refl { SlBodyF.n6 playsR with name := "slices.SortFunc[[]imageeditor/api.Point,imageeditor/api.Point]" }))⟩,
  f14 := Exists.intro "slices.pdqsortCmpFunc[imageeditor/api.Point]" ⟨of_decide_eq_true (id (Eq.refl Bool.true)), Eq.trans Tryz.func34 (congrArg Option.some (Eq.refl { SlBodyF.n14 playsR with name := "slices.pdqsortCmpFunc[imageeditor/api.Point]" }))⟩,
  f15 := Eq.trans Tryz.func35 (congrArg Option.some (Eq.refl (SlBodyF.n15 playsR))),
  f20 := Exists.intro "slices.insertionSortCmpFunc[imageeditor/api.Point]" ⟨of_decide_eq_true (id (Eq.refl Bool.true)), Eq.trans Tryz.func55 (congrArg Option.some (Eq.refl { SlBodyF.n20 playsR with name := "slices.insertionSortCmpFunc[imageeditor/api.Point]" }))⟩,
  f21 := Exists.intro "slices.heapSortCmpFunc[imageeditor/api.Point]" ⟨of_decide_eq_true (id (Eq.refl Bool.true)), Eq.trans Tryz.func56 (congrArg Option.some (Eq.refl { SlBodyF.n21 playsR with name := "slices.heapSortCmpFunc[imageeditor/api.Point]" }))⟩,
  f22 := Exists.intro "slices.breakPatternsCmpFunc[imageeditor/api.Point]" ⟨of_decide_eq_true (id (Eq.refl Bool.true)), Eq.trans Tryz.func57 (congrArg Option.some (Eq.refl { SlBodyF.n22 playsR with name := "slices.breakPatternsCmpFunc[imageeditor/api.Point]" }))⟩,
  f23 := Exists.intro "slices.choosePivotCmpFunc[imageeditor/api.Point]" ⟨of_decide_eq_true (id (Eq.refl Bool.true)), Eq.trans Tryz.func58 (congrArg Option.some (Eq.refl { SlBodyF.n23 playsR with name := "slices.choosePivotCmpFunc[imageeditor/api.Point]" }))⟩,
  f24 := Exists.intro "slices.reverseRangeCmpFunc[imageeditor/api.Point]" ⟨of_decide_eq_true (id (Eq.refl Bool.true)), Eq.trans Tryz.func59 (congrArg Option.some (Eq.refl { SlBodyF.n24 playsR with name := "slices.reverseRangeCmpFunc[imageeditor/api.Point]" }))⟩,
  f25 := Exists.intro "slices.partialInsertionSortCmpFunc[imageeditor/api.Point]" ⟨of_decide_eq_true (id (Eq.refl Bool.true)), Eq.trans Tryz.func60 (congrArg Option.some (Eq.refl { SlBodyF.n25 playsR with name := "slices.partialInsertionSortCmpFunc[imageeditor/api.Point]" }))⟩,
  f26 := Exists.intro "slices.partitionEqualCmpFunc[imageeditor/api.Point]" ⟨of_decide_eq_true (id (Eq.refl Bool.true)), Eq.trans Tryz.func61 (congrArg Option.some (Eq.refl { SlBodyF.n26 playsR with name := "slices.partitionEqualCmpFunc[imageeditor/api.Point]" }))⟩,
  f27 := Exists.intro "slices.partitionCmpFunc[imageeditor/api.Point]" ⟨of_decide_eq_true (id (Eq.refl Bool.true)), Eq.trans Tryz.func62 (congrArg Option.some (Eq.refl { SlBodyF.n27 playsR with name := "slices.partitionCmpFunc[imageeditor/api.Point]" }))⟩,
  f28 := Eq.trans Tryz.func63 (congrArg Option.some (Eq.refl (SlBodyF.n28 playsR))),
  f29 := Eq.trans Tryz.func64 (congrArg Option.some (Eq.refl (SlBodyF.n29 playsR))),
  f46 := Exists.intro "slices.siftDownCmpFunc[imageeditor/api.Point]" ⟨of_decide_eq_true (id (Eq.refl Bool.true)), Eq.trans Tryz.func72 (congrArg Option.some (Eq.refl { SlBodyF.n46 playsR with name := "slices.siftDownCmpFunc[imageeditor/api.Point]" }))⟩,
  f47 := Eq.trans Tryz.func73 (congrArg Option.some (Eq.refl (SlBodyF.n47 playsR))),
  f48 := Eq.trans Tryz.func74 (congrArg Option.some (Eq.refl (SlBodyF.n48 playsR))),
  f49 := Exists.intro "slices.medianAdjacentCmpFunc[imageeditor/api.Point]" ⟨of_decide_eq_true (id (Eq.refl Bool.true)), Eq.trans Tryz.func75 (congrArg Option.some (Eq.refl { SlBodyF.n49 playsR with name := "slices.medianAdjacentCmpFunc[imageeditor/api.Point]" }))⟩,
  f50 := Exists.intro "slices.medianCmpFunc[imageeditor/api.Point]" ⟨of_decide_eq_true (id (Eq.refl Bool.true)), Eq.trans Tryz.func76 (congrArg Option.some (Eq.refl { SlBodyF.n50 playsR with name := "slices.medianCmpFunc[imageeditor/api.Point]" }))⟩,
  f57 := Exists.intro "slices.order2CmpFunc[imageeditor/api.Point]" ⟨of_decide_eq_true (id (Eq.refl Bool.true)), Eq.trans Tryz.func81 (congrArg Option.some (Eq.refl { SlBodyF.n57 playsR with name := "slices.order2CmpFunc[imageeditor/api.Point]" }))⟩,
  t0 := Tryz.underlying0,
  a0 := Tryz.isAgg0,
  z0 := Tryz.sizeOf0,
  v0 := Tryz.zeroValue0,
  t3 := Tryz.underlying3,
  a3 := Tryz.isAgg3,
  z3 := Tryz.sizeOf3,
  v3 := Tryz.zeroValue3,
  t4 := Tryz.underlying4,
  a4 := Tryz.isAgg4,
  z4 := Tryz.sizeOf4,
  v4 := Tryz.zeroValue4,
  t5 := Tryz.underlying5,
  a5 := Tryz.isAgg5,
  z5 := Tryz.sizeOf5,
  v5 := Tryz.zeroValue5,
  t9 := Tryz.underlying9,
  a9 := Tryz.isAgg9,
  z9 := Tryz.sizeOf9,
  v9 := Tryz.zeroValue9,
  t22 := Tryz.underlying23,
  a22 := Tryz.isAgg23,
  z22 := Tryz.sizeOf23,
  v22 := Tryz.zeroValue23,
  t25 := Tryz.underlying39,
  a25 := Tryz.isAgg39,
  z25 := Tryz.sizeOf39,
  v25 := Tryz.zeroValue39,
  t39 := Tryz.underlying53,
  a39 := Tryz.isAgg53,
  z39 := Tryz.sizeOf53,
  v39 := Tryz.zeroValue53,
  t45 := Tryz.underlying71,
  a45 := Tryz.isAgg71,
  z45 := Tryz.sizeOf71,
  v45 := Tryz.zeroValue71,
  t46 := Tryz.underlying72,
  a46 := Tryz.isAgg72,
  z46 := Tryz.sizeOf72,
  v46 := Tryz.zeroValue72,
  t50 := Tryz.underlying76,
  a50 := Tryz.isAgg76,
  z50 := Tryz.sizeOf76,
  v50 := Tryz.zeroValue76,
  t53 := Tryz.underlying79,
  a53 := Tryz.isAgg79,
  z53 := Tryz.sizeOf79,
  v53 := Tryz.zeroValue79,
  t55 := Tryz.underlying81,
  a55 := Tryz.isAgg81,
  z55 := Tryz.sizeOf81,
  v55 := Tryz.zeroValue81,
  t66 := Tryz.underlying88,
  a66 := Tryz.isAgg88,
  z66 := Tryz.sizeOf88,
  v66 := Tryz.zeroValue88,
  t70 := Tryz.underlying92,
  a70 := Tryz.isAgg92,
  z70 := Tryz.sizeOf92,
  v70 := Tryz.zeroValue92,
  t76 := Tryz.underlying97,
  a76 := Tryz.isAgg97,
  z76 := Tryz.sizeOf97,
  v76 := Tryz.zeroValue97,
  t77 := Tryz.underlying59,
  a77 := Tryz.isAgg59,
  z77 := Tryz.sizeOf59,
  v77 := Tryz.zeroValue59 }
theorem dss_ints {ok : Nat → Prop} {w : World} : ∀ {l : List Int} {vs : List Value}, RepDss ok w 1 (l.map iC) vs ↔ vs = l.map (Value.int .i64)
  | [], vs => by simp [RepDss]
  | a :: l, vs => by
    simp only [List.map_cons, RepDss, iC, RepDs, RepD]
    constructor
    · rintro ⟨v1, v2, rfl, hl, ⟨v, vs', rfl, rfl, _, rfl⟩, h⟩
      rw [dss_ints.1 h]; rfl
    · rintro rfl
      exact ⟨[.int .i64 a], l.map (Value.int .i64), rfl, rfl, ⟨_, [], rfl, rfl, rfl, rfl⟩, dss_ints.2 rfl⟩
theorem ssort_fx0 (l : List Int) (hl : 0 < l.length) : Eng.FnX Tryz.prog 77 [.mu (.arr 3 1 (l.map iC)) (.arr 3 1 ((sortL l).map iC)) 0 l.length 1] (.tup []) := by
  intro w vs ι hent hinj hargs
  have hg0 : geth (hpI 0 [PX.mu (.arr 3 1 (l.map iC)) (.arr 3 1 ((sortL l).map iC)) 0 l.length 1]) 30000 = some (true, .arr 3 1 (l.map iC)) := by simp [hpI, geth]
  have E := hent 30000 _ hg0
  rcases E with ⟨_, h2⟩ | ⟨b, cap, cur, h1, h2, h3, h4, h5, h6, h7⟩
  · simp at h2; subst h2; simp at hl
  simp only [List.length_map, Nat.mul_one] at h4 h5 h6 h7
  have h7' := dss_ints.1 h7
  simp only [RepX, PX.av, RepA, Nat.add_zero] at hargs
  obtain ⟨v, vs', e1, hv, e2⟩ := hargs
  subst e2
  have hv' : v = .slice (some ⟨b, 0, none⟩) l.length cap := by
    rcases hv with ⟨g1, _, _, g4⟩ | ⟨b', c', g1, g2, g3⟩
    · omega
    · rw [h1] at g1; simp only [Option.some.injEq, Prod.mk.injEq] at g1
      obtain ⟨rfl, rfl⟩ := g1
      simpa using g2
  have evs : vs = #[.slice (some ⟨b, 0, none⟩) l.length cap] := by
    rw [← hv']; apply Array.toList_inj.1; simpa using e1
  subst evs
  have hlen : (sortL l).length = l.length := sortL_len l
  refine (calls_of_every_depth fun D => AnyS.slices_Sort_int_in slays D b 0 cap l w (holds_of_blockI h3 h7') h2 (by omega)).mono ?_
  rintro e w' ⟨rfl, n, os, rfl⟩
  have hg := grownBy_sortedI (w := w) (g := b) (n := n) (os := os) (l.mergeSort fun x y => decide (x ≤ y)).toArray
  obtain ⟨g1, g2, g3, g4, g5⟩ := hg
  have hb := heap_sortedI (w := w) (g := b) (n := n) (os := os) (l.mergeSort fun x y => decide (x ≤ y)).toArray h3
  refine ⟨.tuple #[], rfl, ⟨g1, g2, g3, g4⟩, fun b' hb' => ?_, fun nm x hx => ?_, ?_⟩
  · refine g5 b' hb'.1 fun e => ?_
    simp only [Option.some.injEq] at e
    subst e
    exact hb'.2.1 30000 _ cap hg0 h1
  · simp only [hpO, geth] at hx
    cases hn : 30000 + 0 == nm
    · rw [hn] at hx; cases hx
    · rw [hn, cond_true] at hx
      simp only [beq_iff_eq] at hn; subst hn
      simp only [Option.some.injEq, Prod.mk.injEq, true_and] at hx
      subst hx
      refine .inr ⟨b, cap, _, h1, trivial, hb, ?_, ?_, ⟨h6.1, ?_⟩, ?_⟩
      · simp [Sort.putCells, h4]
      · simp [hlen]; exact h5
      · simp [hlen]; exact h6.2
      · simp only [List.length_map, Nat.mul_one]
        exact dss_ints.2 (take_putCellsI cur (sortL l) (by rw [hlen]; omega))
  · simp only [RepR, RepRs]
    exact ⟨[], rfl, rfl, trivial⟩

theorem ssort_fx (l : List Int) : Eng.FnX Tryz.prog 77 [.mu (.arr 3 1 (l.map iC)) (.arr 3 1 ((sortL l).map iC)) 0 l.length 1] (.tup []) := by
  by_cases hl : 0 < l.length
  · exact ssort_fx0 l hl
  have hl' : l = [] := List.eq_nil_of_length_eq_zero (by omega)
  subst hl'
  have hs : sortL [] = [] := by simp [sortL]
  rw [hs]
  intro w vs ι hent hinj hargs
  simp only [RepX, PX.av, RepA, Nat.add_zero] at hargs
  obtain ⟨v, vs', e1, hv, e2⟩ := hargs
  subst e2
  have evs : vs = #[v] := by apply Array.toList_inj.1; simpa using e1
  have hc : Calls Tryz.prog 77 vs w fun e w' => e = .returned (.tuple #[]) ∧ w' = w := by
    rw [evs]
    rcases hv with ⟨_, g2, _, _⟩ | ⟨b', c', _, g2, _⟩
    · rw [g2]; exact Any.slices_Sort_int_none slays none 0 w
    · rw [g2]; exact Any.slices_Sort_int_none slays _ _ w
  refine hc.mono ?_
  rintro e w' ⟨rfl, rfl⟩
  refine ⟨.tuple #[], rfl, ⟨rfl, rfl, rfl, Nat.le_refl _⟩, fun _ _ => rfl, fun nm x hx => ?_, ?_⟩
  · have := hent nm x (by simpa only [hpI, hpO] using hx)
    simp only [hpO, geth] at hx
    cases hn : 30000 + 0 == nm
    · rw [hn] at hx; cases hx
    · rw [hn, cond_true] at hx
      simp only [Option.some.injEq, Prod.mk.injEq, true_and] at hx
      subst hx
      rcases this with h | ⟨b, cap, cur, h1, h2, h3, h4, h5, h6, h7⟩
      · exact .inl h
      · exact .inr ⟨b, cap, cur, h1, trivial, h3, h4, h5, h6, by simp [RepDss]⟩
  · simp only [RepR, RepRs]
    exact ⟨[], rfl, rfl, trivial⟩

theorem isnan_c (a : Int) (W : World) : Calls Tryz.prog 36 #[.int .i64 a] W fun e w' => e = .returned (.bool false) ∧ w' = W := by
  go_enter Tryz.func36, Tryz.ntmps36
  go_wp2
  go_ret
  simp
set_option maxRecDepth 100000 in
set_option maxHeartbeats 1000000 in
theorem cmp_c (a b : Int) (W : World) : Calls Tryz.prog 15 #[.int .i64 a, .int .i64 b] W fun e w' => e = .returned (.int .i64 (cmpI a b)) ∧ w' = W := by
  have h1 := fun n W => isnan_c n W
  go_enter Tryz.func15, Tryz.ntmps15
  go_wp2_with (go_at_call 36; (refine (h1 _ _).mono ?_; rintro e w' ⟨rfl, rfl⟩))
  all_goals go_ret
  all_goals (refine ⟨?_, rfl⟩; unfold cmpI; (repeat' split) <;> simp_all <;> omega)
set_option maxRecDepth 100000 in
set_option maxHeartbeats 1000000 in
theorem or_c (x y : Int) (b o c : Nat) (W : World) (hx : W.cell? ⟨b, o, none⟩ = some (.int .i64 x)) (hy : W.cell? ⟨b, o + 1, none⟩ = some (.int .i64 y)) : Calls Tryz.prog 14 #[.slice (some ⟨b, o, none⟩) 2 c] W fun e w' => e = .returned (.int .i64 (orI [x, y])) ∧ w' = W := by
  go_enter Tryz.func14, Tryz.ntmps14
  go_wp2
  refine wp_loop_rounds 3 ?_
  rw [rounds_succ]
  go_wp2
  · go_ret; rename_i h; rw [or_3]; simp at h; simp [h]
  · rw [rounds_succ]
    go_wp2
    · go_ret; rename_i h _ _ h2; rw [or_3]; simp_all
    · rw [rounds_succ]
      go_wp2
      go_ret
      rename_i h _ _ h2; rw [or_3]; simp_all
theorem cellsA (W : World) (a b : Obj) {x y : Value} : (((((W.alloc a).alloc b).alloc (.cells #[x, y] 3)).drew).cell? ⟨W.heap.size + 1 + 1, 0, none⟩) = some x := by
  simp only [World.cell?, World.drew, World.alloc, Array.getElem?_push, Array.size_push]; simp
theorem cellsB (W : World) (a b : Obj) {x y : Value} : (((((W.alloc a).alloc b).alloc (.cells #[x, y] 3)).drew).cell? ⟨W.heap.size + 1 + 1, 0 + 1, none⟩) = some y := by
  simp only [World.cell?, World.drew, World.alloc, Array.getElem?_push, Array.size_push]; simp
theorem grow3 (W : World) (a b c : Obj) : ∃ n os', (((W.alloc a).alloc b).alloc c).drew = Go.Sort.grow (W.drewN n) os' :=
  ⟨1, #[a, b, c], by rw [Go.Sort.alloc_eq_grow, Go.Sort.alloc_eq_grow, Go.Sort.alloc_eq_grow, Go.Sort.grow_grow, Go.Sort.grow_grow]; rfl⟩

set_option maxRecDepth 100000 in
set_option maxHeartbeats 2000000 in
theorem rowcmp_c (p1 p2 q1 q2 : Int) (W : World) : Calls Tryz.prog 80 #[.agg #[.int .i64 p1, .int .i64 p2], .agg #[.int .i64 q1, .int .i64 q2]] W fun e w' => e = .returned (.int .i64 (orI [cmpI p1 q1, cmpI p2 q2])) ∧ ∃ n os', w' = Go.Sort.grow (W.drewN n) os' := by
  have h1 := fun a b W => cmp_c a b W
  go_enter Tryz.func80, Tryz.ntmps80
  go_wp2_with fail
  go_region_held3 (fun w' => w'.cell? ⟨W.heap.size, 0, none⟩ = some (.int .i64 p1) ∧ w'.cell? ⟨W.heap.size, 1, none⟩ = some (.int .i64 p2) ∧ w'.cell? ⟨W.heap.size + 1, 0, none⟩ = some (.int .i64 q1) ∧ w'.cell? ⟨W.heap.size + 1, 1, none⟩ = some (.int .i64 q2)) (go_keep)
    (first | (go_at_call 15; refine (h1 _ _ _).mono ?_; rintro e w' ⟨rfl, rfl⟩) | (go_at_call 14; refine (or_c (cmpI p1 q1) (cmpI p2 q2) _ _ _ _ ?_ ?_).mono ?_; (exact cellsA _ _ _); (exact cellsB _ _ _); rintro e w2 ⟨rfl, rfl⟩))
  all_goals go_wp2
  all_goals go_ret
  refine ⟨by simp, ?_⟩
  exact grow3 W _ _ _

def encRw (p : Rw) : List Value := [.int .i64 p.lo, .int .i64 p.hi]
theorem srtrw_fx_sort (l : List Rw) (b cap : Nat) (w : World) (hH : Go.Sort.HoldsK encRw 2 w b 0 l.toArray) (hb : b < w.heap.size) (hl : l.length < 4611686018427387904) :
    Calls Tryz.prog 79 #[.slice (some ⟨b, 0, none⟩) l.length cap, .func (.func 80) #[] #[]] w fun e w' => e = .returned (.tuple #[]) ∧ ∃ n os, w' = Go.Proofs.sortWorldK encRw 2 w b 0 n (srtRw l).toArray os := by
  have eg : ∀ args w, (callFunc 80 args).run Tryz.prog w = .ok (.enter 80 args) w := enters_of Tryz.func80 (by kernel_rfl) rfl
  have hcmp : Go.Proofs.CmpLays Tryz.prog 80 #[] encRw 2 cmpRw b 0 l.toArray.size w := fun _ _ _ _ x y => by
    have h := rowcmp_c x.lo x.hi y.lo y.hi
    rw [or_rw] at h
    exact h _
  have h := AnyQ.slices_SortFunc_total rlays 2 Tryz.isAgg65 Tryz.sizeOf65 encRw (fun _ => rfl) (fun x v hv => by simp [encRw] at hv; rcases hv with rfl | rfl <;> rfl) cmpRw swoRw 80 #[] b 0 cap l.toArray w eg hcmp hH hb hl totRw
  rw [predRw] at h
  simp only [List.size_toArray, List.toList_toArray] at h
  exact h
theorem srtrw_fx (l : List Rw) : Eng.FnX Tryz.prog 79 [.mu (.arr 65 2 (l.map rnC)) (.arr 65 2 ((srtRw l).map rnC)) 0 l.length 2, .ro (.dat (.v (.func (.func 80) #[] #[])))] (.tup []) :=
  srt2_fx (enc := encRw) (fun ok w x vs => by
    simp only [rnC, encRw, RepDs, RepD]
    constructor
    · rintro ⟨v, vs', rfl, rfl, _, v', vs'', rfl, rfl, _, rfl⟩; rfl
    · rintro rfl; exact ⟨_, _, rfl, rfl, rfl, _, _, rfl, rfl, rfl, rfl⟩) (fun _ => rfl) srtRw_len srtrw_fx_sort (fun p cap w => AnyF.slices_SortFunc_none rlays p cap _ w) l

set_option maxRecDepth 100000 in
set_option maxHeartbeats 2000000 in
theorem tilecmp_c (p1 p2 q1 q2 : Int) (W : World) : Calls Tryz.prog 13 #[.agg #[.int .i64 p1, .int .i64 p2], .agg #[.int .i64 q1, .int .i64 q2]] W fun e w' => e = .returned (.int .i64 (orI [cmpI p2 q2, cmpI p1 q1])) ∧ ∃ n os', w' = Go.Sort.grow (W.drewN n) os' := by
  have h1 := fun a b W => cmp_c a b W
  go_enter Tryz.func13, Tryz.ntmps13
  go_wp2_with fail
  go_region_held3 (fun w' => w'.cell? ⟨W.heap.size, 0, none⟩ = some (.int .i64 p1) ∧ w'.cell? ⟨W.heap.size, 1, none⟩ = some (.int .i64 p2) ∧ w'.cell? ⟨W.heap.size + 1, 0, none⟩ = some (.int .i64 q1) ∧ w'.cell? ⟨W.heap.size + 1, 1, none⟩ = some (.int .i64 q2)) (go_keep)
    (first | (go_at_call 15; refine (h1 _ _ _).mono ?_; rintro e w' ⟨rfl, rfl⟩) | (go_at_call 14; refine (or_c (cmpI p2 q2) (cmpI p1 q1) _ _ _ _ ?_ ?_).mono ?_; (exact cellsA _ _ _); (exact cellsB _ _ _); rintro e w2 ⟨rfl, rfl⟩))
  all_goals go_wp2
  all_goals go_ret
  refine ⟨by simp, ?_⟩
  exact grow3 W _ _ _

def encPt (p : Pt) : List Value := [.int .i64 p.x, .int .i64 p.y]
theorem srtpt_fx_sort (l : List Pt) (b cap : Nat) (w : World) (hH : Go.Sort.HoldsK encPt 2 w b 0 l.toArray) (hb : b < w.heap.size) (hl : l.length < 4611686018427387904) :
    Calls Tryz.prog 12 #[.slice (some ⟨b, 0, none⟩) l.length cap, .func (.func 13) #[] #[]] w fun e w' => e = .returned (.tuple #[]) ∧ ∃ n os, w' = Go.Proofs.sortWorldK encPt 2 w b 0 n (srtPt l).toArray os := by
  have eg : ∀ args w, (callFunc 13 args).run Tryz.prog w = .ok (.enter 13 args) w := enters_of Tryz.func13 (by kernel_rfl) rfl
  have hcmp : Go.Proofs.CmpLays Tryz.prog 13 #[] encPt 2 cmpPt b 0 l.toArray.size w := fun _ _ _ _ x y => by
    have h := tilecmp_c x.x x.y y.x y.y
    rw [or_pt] at h
    exact h _
  have h := AnyQ.slices_SortFunc_total plays 2 Tryz.isAgg26 Tryz.sizeOf26 encPt (fun _ => rfl) (fun x v hv => by simp [encPt] at hv; rcases hv with rfl | rfl <;> rfl) cmpPt swoPt 13 #[] b 0 cap l.toArray w eg hcmp hH hb hl totPt
  rw [predPt] at h
  simp only [List.size_toArray, List.toList_toArray] at h
  exact h
theorem srtpt_fx (l : List Pt) : Eng.FnX Tryz.prog 12 [.mu (.arr 26 2 (l.map ptC)) (.arr 26 2 ((srtPt l).map ptC)) 0 l.length 2, .ro (.dat (.v (.func (.func 13) #[] #[])))] (.tup []) :=
  srt2_fx (enc := encPt) (fun ok w x vs => by
    simp only [ptC, encPt, RepDs, RepD]
    constructor
    · rintro ⟨v, vs', rfl, rfl, _, v', vs'', rfl, rfl, _, rfl⟩; rfl
    · rintro rfl; exact ⟨_, _, rfl, rfl, rfl, _, _, rfl, rfl, rfl, rfl⟩) (fun _ => rfl) srtPt_len srtpt_fx_sort (fun p cap w => AnyF.slices_SortFunc_none plays p cap _ w) l
end Go.S03

