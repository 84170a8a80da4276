import Derived.Test.YtnbeigcjhpldmaaF03
import Derived.Test.YtnbeigcjhpldmaaLF
import Derived.Shelf.Sort.AssemblyIn
import Derived.Shelf.Slices.In.SortNone
import Derived.Sort.EveryDepth
import Derived.Tactics
import Derived.Tactics2
import Derived.StillTactics
import Derived.OwnWalk
import Derived.Laws.Pointers
import Derived.Deep.RegionHeld3
set_option linter.unusedSimpArgs false
set_option linter.unusedVariables false
set_option linter.unusedSimpArgs false
set_option linter.unusedVariables false
namespace Go.S03
open Go.RowKit Go.Proofs Go.Eng Go.Rect Go.Shelf
/-! ### The library's sorts, by the kit's contracts -/
def slaysR : Shelf.Ren := {
  f := (fun x => match x with
    | 189 => 69
    | 125 => 66
    | 257 => 83
    | 128 => 81
    | 129 => 82
    | 294 => 90
    | 295 => 91
    | 296 => 92
    | 297 => 93
    | 298 => 94
    | 299 => 95
    | 216 => 96
    | 300 => 97
    | 301 => 98
    | 328 => 108
    | 329 => 86
    | 330 => 87
    | 331 => 109
    | 332 => 110
    | 215 => 67
    | 343 => 114
    | n => n),
  t := (fun x => match x with
    | 28 => 61
    | 3 => 3
    | 46 => 72
    | 0 => 0
    | 51 => 87
    | 53 => 89
    | 4 => 4
    | 183 => 80
    | 182 => 79
    | 131 => 84
    | 5 => 5
    | 9 => 9
    | 218 => 92
    | 222 => 96
    | 228 => 108
    | 229 => 109
    | n => n),
  g := fun n => n }
theorem slays : Lays.n189 Try.prog slaysR := {
  mixed := Eq.refl Bool.true,
  f125 := Eq.trans Try.func66 (congrArg Option.some (Eq.refl (Body.n125 slaysR))),
  f128 := Eq.trans Try.func81 (congrArg Option.some (Eq.refl (Body.n128 slaysR))),
  f129 := Eq.trans Try.func82 (congrArg Option.some (Eq.refl (Body.n129 slaysR))),
  f189 := Eq.trans Try.func69 (congrArg Option.some (Eq.refl (Body.n189 slaysR))),
  f215 := Eq.trans Try.func67 (congrArg Option.some (Eq.refl (Body.n215 slaysR))),
  f216 := Eq.trans Try.func96 (congrArg Option.some (Eq.refl (Body.n216 slaysR))),
  f257 := Eq.trans Try.func83 (congrArg Option.some (Eq.refl (Body.n257 slaysR))),
  f294 := Eq.trans Try.func90 (congrArg Option.some (Eq.refl (Body.n294 slaysR))),
  f295 := Eq.trans Try.func91 (congrArg Option.some (Eq.refl (Body.n295 slaysR))),
  f296 := Eq.trans Try.func92 (congrArg Option.some (Eq.refl (Body.n296 slaysR))),
  f297 := Eq.trans Try.func93 (congrArg Option.some (Eq.refl (Body.n297 slaysR))),
  f298 := Eq.trans Try.func94 (congrArg Option.some (Eq.refl (Body.n298 slaysR))),
  f299 := Eq.trans Try.func95 (congrArg Option.some (Eq.refl (Body.n299 slaysR))),
  f300 := Eq.trans Try.func97 (congrArg Option.some (Eq.refl (Body.n300 slaysR))),
  f301 := Eq.trans Try.func98 (congrArg Option.some (Eq.refl (Body.n301 slaysR))),
  f328 := Eq.trans Try.func108 (congrArg Option.some (Eq.refl (Body.n328 slaysR))),
  f329 := Eq.trans Try.func86 (congrArg Option.some (Eq.refl (Body.n329 slaysR))),
  f330 := Eq.trans Try.func87 (congrArg Option.some (Eq.refl (Body.n330 slaysR))),
  f331 := Eq.trans Try.func109 (congrArg Option.some (Eq.refl (Body.n331 slaysR))),
  f332 := Eq.trans Try.func110 (congrArg Option.some (Eq.refl (Body.n332 slaysR))),
  f343 := Eq.trans Try.func114 (congrArg Option.some (Eq.refl (Body.n343 slaysR))),
  t0 := Try.underlying0,
  a0 := Try.isAgg0,
  z0 := Try.sizeOf0,
  v0 := Try.zeroValue0,
  t3 := Try.underlying3,
  a3 := Try.isAgg3,
  z3 := Try.sizeOf3,
  v3 := Try.zeroValue3,
  t4 := Try.underlying4,
  a4 := Try.isAgg4,
  z4 := Try.sizeOf4,
  v4 := Try.zeroValue4,
  t5 := Try.underlying5,
  a5 := Try.isAgg5,
  z5 := Try.sizeOf5,
  v5 := Try.zeroValue5,
  t9 := Try.underlying9,
  a9 := Try.isAgg9,
  z9 := Try.sizeOf9,
  v9 := Try.zeroValue9,
  t28 := Try.underlying61,
  a28 := Try.isAgg61,
  z28 := Try.sizeOf61,
  v28 := Try.zeroValue61,
  t46 := Try.underlying72,
  a46 := Try.isAgg72,
  z46 := Try.sizeOf72,
  v46 := Try.zeroValue72,
  t51 := Try.underlying87,
  a51 := Try.isAgg87,
  z51 := Try.sizeOf87,
  v51 := Try.zeroValue87,
  t53 := Try.underlying89,
  a53 := Try.isAgg89,
  z53 := Try.sizeOf89,
  v53 := Try.zeroValue89,
  t131 := Try.underlying84,
  a131 := Try.isAgg84,
  z131 := Try.sizeOf84,
  v131 := Try.zeroValue84,
  t182 := Try.underlying79,
  a182 := Try.isAgg79,
  z182 := Try.sizeOf79,
  v182 := Try.zeroValue79,
  t183 := Try.underlying80,
  a183 := Try.isAgg80,
  z183 := Try.sizeOf80,
  v183 := Try.zeroValue80,
  t218 := Try.underlying92,
  a218 := Try.isAgg92,
  z218 := Try.sizeOf92,
  v218 := Try.zeroValue92,
  t222 := Try.underlying96,
  a222 := Try.isAgg96,
  z222 := Try.sizeOf96,
  v222 := Try.zeroValue96,
  t228 := Try.underlying108,
  a228 := Try.isAgg108,
  z228 := Try.sizeOf108,
  v228 := Try.zeroValue108,
  t229 := Try.underlying109,
  a229 := Try.isAgg109,
  z229 := Try.sizeOf109,
  v229 := Try.zeroValue109 }
def rlaysR : Shelf.Ren := {
  f := (fun x => match x with
    | 6 => 71
    | 15 => 66
    | 14 => 84
    | 28 => 81
    | 29 => 82
    | 20 => 99
    | 21 => 100
    | 22 => 101
    | 23 => 102
    | 24 => 103
    | 25 => 104
    | 26 => 105
    | 27 => 106
    | 46 => 111
    | 47 => 86
    | 48 => 87
    | 49 => 112
    | 50 => 113
    | 57 => 115
    | n => n),
  t := (fun x => match x with
    | 22 => 44
    | 24 => 46
    | 25 => 77
    | 3 => 3
    | 39 => 72
    | 0 => 0
    | 53 => 87
    | 55 => 89
    | 4 => 4
    | 46 => 80
    | 45 => 79
    | 50 => 84
    | 5 => 5
    | 9 => 9
    | 66 => 92
    | 70 => 96
    | 76 => 108
    | 77 => 109
    | n => n),
  g := fun n => n }
theorem rlays : SlLaysF0.n6 Try.prog rlaysR := {
  mixed := Eq.refl Bool.true,
  f6 := Exists.intro "slices.SortFunc[[]imageeditor/region.run,imageeditor/region.run]" ⟨of_decide_eq_true (id (Eq.refl Bool.true)), Eq.trans Try.func71 (congrArg Option.some (Eq.refl { SlBodyF.n6 rlaysR with name := "slices.SortFunc[[]imageeditor/region.run,imageeditor/region.run]" }))⟩,
  f14 := Exists.intro "slices.pdqsortCmpFunc[imageeditor/region.run]" ⟨of_decide_eq_true (id (Eq.refl Bool.true)), Eq.trans Try.func84 (congrArg Option.some (Eq.refl { SlBodyF.n14 rlaysR with name := "slices.pdqsortCmpFunc[imageeditor/region.run]" }))⟩,
  f15 := Eq.trans Try.func66 (congrArg Option.some (Eq.refl (SlBodyF.n15 rlaysR))),
  f20 := Exists.intro "slices.insertionSortCmpFunc[imageeditor/region.run]" ⟨of_decide_eq_true (id (Eq.refl Bool.true)), Eq.trans Try.func99 (congrArg Option.some (Eq.refl { SlBodyF.n20 rlaysR with name := "slices.insertionSortCmpFunc[imageeditor/region.run]" }))⟩,
  f21 := Exists.intro "slices.heapSortCmpFunc[imageeditor/region.run]" ⟨of_decide_eq_true (id (Eq.refl Bool.true)), Eq.trans Try.func100 (congrArg Option.some (Eq.refl { SlBodyF.n21 rlaysR with name := "slices.heapSortCmpFunc[imageeditor/region.run]" }))⟩,
  f22 := Exists.intro "slices.breakPatternsCmpFunc[imageeditor/region.run]" ⟨of_decide_eq_true (id (Eq.refl Bool.true)), Eq.trans Try.func101 (congrArg Option.some (Eq.refl { SlBodyF.n22 rlaysR with name := "slices.breakPatternsCmpFunc[imageeditor/region.run]" }))⟩,
  f23 := Exists.intro "slices.choosePivotCmpFunc[imageeditor/region.run]" ⟨of_decide_eq_true (id (Eq.refl Bool.true)), Eq.trans Try.func102 (congrArg Option.some (Eq.refl { SlBodyF.n23 rlaysR with name := "slices.choosePivotCmpFunc[imageeditor/region.run]" }))⟩,
  f24 := Exists.intro "slices.reverseRangeCmpFunc[imageeditor/region.run]" ⟨of_decide_eq_true (id (Eq.refl Bool.true)), Eq.trans Try.func103 (congrArg Option.some (Eq.refl { SlBodyF.n24 rlaysR with name := "slices.reverseRangeCmpFunc[imageeditor/region.run]" }))⟩,
  f25 := Exists.intro "slices.partialInsertionSortCmpFunc[imageeditor/region.run]" ⟨of_decide_eq_true (id (Eq.refl Bool.true)), Eq.trans Try.func104 (congrArg Option.some (Eq.refl { SlBodyF.n25 rlaysR with name := "slices.partialInsertionSortCmpFunc[imageeditor/region.run]" }))⟩,
  f26 := Exists.intro "slices.partitionEqualCmpFunc[imageeditor/region.run]" ⟨of_decide_eq_true (id (Eq.refl Bool.true)), Eq.trans Try.func105 (congrArg Option.some (Eq.refl { SlBodyF.n26 rlaysR with name := "slices.partitionEqualCmpFunc[imageeditor/region.run]" }))⟩,
  f27 := Exists.intro "slices.partitionCmpFunc[imageeditor/region.run]" ⟨of_decide_eq_true (id (Eq.refl Bool.true)), Eq.trans Try.func106 (congrArg Option.some (Eq.refl { SlBodyF.n27 rlaysR with name := "slices.partitionCmpFunc[imageeditor/region.run]" }))⟩,
  f28 := Eq.trans Try.func81 (congrArg Option.some (Eq.refl (SlBodyF.n28 rlaysR))),
  f29 := Eq.trans Try.func82 (congrArg Option.some (Eq.refl (SlBodyF.n29 rlaysR))),
  f46 := Exists.intro "slices.siftDownCmpFunc[imageeditor/region.run]" ⟨of_decide_eq_true (id (Eq.refl Bool.true)), Eq.trans Try.func111 (congrArg Option.some (Eq.refl { SlBodyF.n46 rlaysR with name := "slices.siftDownCmpFunc[imageeditor/region.run]" }))⟩,
  f47 := Eq.trans Try.func86 (congrArg Option.some (Eq.refl (SlBodyF.n47 rlaysR))),
  f48 := Eq.trans Try.func87 (congrArg Option.some (Eq.refl (SlBodyF.n48 rlaysR))),
  f49 := Exists.intro "slices.medianAdjacentCmpFunc[imageeditor/region.run]" ⟨of_decide_eq_true (id (Eq.refl Bool.true)), Eq.trans Try.func112 (congrArg Option.some (Eq.refl { SlBodyF.n49 rlaysR with name := "slices.medianAdjacentCmpFunc[imageeditor/region.run]" }))⟩,
  f50 := Exists.intro "slices.medianCmpFunc[imageeditor/region.run]" ⟨of_decide_eq_true (id (Eq.refl Bool.true)), Eq.trans Try.func113 (congrArg Option.some (Eq.refl { SlBodyF.n50 rlaysR with name := "slices.medianCmpFunc[imageeditor/region.run]" }))⟩,
  f57 := Exists.intro "slices.order2CmpFunc[imageeditor/region.run]" ⟨of_decide_eq_true (id (Eq.refl Bool.true)), Eq.trans Try.func115 (congrArg Option.some (Eq.refl { SlBodyF.n57 rlaysR with name := "slices.order2CmpFunc[imageeditor/region.run]" }))⟩,
  t0 := Try.underlying0,
  a0 := Try.isAgg0,
  z0 := Try.sizeOf0,
  v0 := Try.zeroValue0,
  t3 := Try.underlying3,
  a3 := Try.isAgg3,
  z3 := Try.sizeOf3,
  v3 := Try.zeroValue3,
  t4 := Try.underlying4,
  a4 := Try.isAgg4,
  z4 := Try.sizeOf4,
  v4 := Try.zeroValue4,
  t5 := Try.underlying5,
  a5 := Try.isAgg5,
  z5 := Try.sizeOf5,
  v5 := Try.zeroValue5,
  t9 := Try.underlying9,
  a9 := Try.isAgg9,
  z9 := Try.sizeOf9,
  v9 := Try.zeroValue9,
  t22 := Try.underlying44,
  a22 := Try.isAgg44,
  z22 := Try.sizeOf44,
  v22 := Try.zeroValue44,
  t25 := Try.underlying77,
  a25 := Try.isAgg77,
  z25 := Try.sizeOf77,
  v25 := Try.zeroValue77,
  t39 := Try.underlying72,
  a39 := Try.isAgg72,
  z39 := Try.sizeOf72,
  v39 := Try.zeroValue72,
  t45 := Try.underlying79,
  a45 := Try.isAgg79,
  z45 := Try.sizeOf79,
  v45 := Try.zeroValue79,
  t46 := Try.underlying80,
  a46 := Try.isAgg80,
  z46 := Try.sizeOf80,
  v46 := Try.zeroValue80,
  t50 := Try.underlying84,
  a50 := Try.isAgg84,
  z50 := Try.sizeOf84,
  v50 := Try.zeroValue84,
  t53 := Try.underlying87,
  a53 := Try.isAgg87,
  z53 := Try.sizeOf87,
  v53 := Try.zeroValue87,
  t55 := Try.underlying89,
  a55 := Try.isAgg89,
  z55 := Try.sizeOf89,
  v55 := Try.zeroValue89,
  t66 := Try.underlying92,
  a66 := Try.isAgg92,
  z66 := Try.sizeOf92,
  v66 := Try.zeroValue92,
  t70 := Try.underlying96,
  a70 := Try.isAgg96,
  z70 := Try.sizeOf96,
  v70 := Try.zeroValue96,
  t76 := Try.underlying108,
  a76 := Try.isAgg108,
  z76 := Try.sizeOf108,
  v76 := Try.zeroValue108,
  t77 := Try.underlying109,
  a77 := Try.isAgg109,
  z77 := Try.sizeOf109,
  v77 := Try.zeroValue109 }
def playsR : Shelf.Ren := {
  f := (fun x => match x with
    | 6 => 51
    | 15 => 66
    | 14 => 65
    | 28 => 81
    | 29 => 82
    | 20 => 73
    | 21 => 74
    | 22 => 75
    | 23 => 76
    | 24 => 77
    | 25 => 78
    | 26 => 79
    | 27 => 80
    | 46 => 85
    | 47 => 86
    | 48 => 87
    | 49 => 88
    | 50 => 89
    | 57 => 107
    | n => n),
  t := (fun x => match x with
    | 22 => 38
    | 24 => 29
    | 25 => 60
    | 3 => 3
    | 39 => 72
    | 0 => 0
    | 53 => 87
    | 55 => 89
    | 4 => 4
    | 46 => 80
    | 45 => 79
    | 50 => 84
    | 5 => 5
    | 9 => 9
    | 66 => 92
    | 70 => 96
    | 76 => 108
    | 77 => 109
    | n => n),
  g := fun n => n }
theorem plays : SlLaysF0.n6 Try.prog playsR := {
  mixed := Eq.refl Bool.true,
  f6 := Exists.intro "slices.SortFunc[[]imageeditor/api.Point,imageeditor/api.Point]" ⟨of_decide_eq_true (id (Eq.refl Bool.true)), Eq.trans Try.func51 (congrArg Option.some (Eq.refl { SlBodyF.n6 playsR with name := "slices.SortFunc[[]imageeditor/api.Point,imageeditor/api.Point]" }))⟩,
  f14 := Exists.intro "slices.pdqsortCmpFunc[imageeditor/api.Point]" ⟨of_decide_eq_true (id (Eq.refl Bool.true)), Eq.trans Try.func65 (congrArg Option.some (Eq.refl { SlBodyF.n14 playsR with name := "slices.pdqsortCmpFunc[imageeditor/api.Point]" }))⟩,
  f15 := Eq.trans Try.func66 (congrArg Option.some (Eq.refl (SlBodyF.n15 playsR))),
  f20 := Exists.intro "slices.insertionSortCmpFunc[imageeditor/api.Point]" ⟨of_decide_eq_true (id (Eq.refl Bool.true)), Eq.trans Try.func73 (congrArg Option.some (Eq.refl { SlBodyF.n20 playsR with name := "slices.insertionSortCmpFunc[imageeditor/api.Point]" }))⟩,
  f21 := Exists.intro "slices.heapSortCmpFunc[imageeditor/api.Point]" ⟨of_decide_eq_true (id (Eq.refl Bool.true)), Eq.trans Try.func74 (congrArg Option.some (Eq.refl { SlBodyF.n21 playsR with name := "slices.heapSortCmpFunc[imageeditor/api.Point]" }))⟩,
  f22 := Exists.intro "slices.breakPatternsCmpFunc[imageeditor/api.Point]" ⟨of_decide_eq_true (id (Eq.refl Bool.true)), Eq.trans Try.func75 (congrArg Option.some (Eq.refl { SlBodyF.n22 playsR with name := "slices.breakPatternsCmpFunc[imageeditor/api.Point]" }))⟩,
  f23 := Exists.intro "slices.choosePivotCmpFunc[imageeditor/api.Point]" ⟨of_decide_eq_true (id (Eq.refl Bool.true)), Eq.trans Try.func76 (congrArg Option.some (Eq.refl { SlBodyF.n23 playsR with name := "slices.choosePivotCmpFunc[imageeditor/api.Point]" }))⟩,
  f24 := Exists.intro "slices.reverseRangeCmpFunc[imageeditor/api.Point]" ⟨of_decide_eq_true (id (Eq.refl Bool.true)), Eq.trans Try.func77 (congrArg Option.some (Eq.refl { SlBodyF.n24 playsR with name := "slices.reverseRangeCmpFunc[imageeditor/api.Point]" }))⟩,
  f25 := Exists.intro "slices.partialInsertionSortCmpFunc[imageeditor/api.Point]" ⟨of_decide_eq_true (id (Eq.refl Bool.true)), Eq.trans Try.func78 (congrArg Option.some (Eq.refl { SlBodyF.n25 playsR with name := "slices.partialInsertionSortCmpFunc[imageeditor/api.Point]" }))⟩,
  f26 := Exists.intro "slices.partitionEqualCmpFunc[imageeditor/api.Point]" ⟨of_decide_eq_true (id (Eq.refl Bool.true)), Eq.trans Try.func79 (congrArg Option.some (Eq.refl { SlBodyF.n26 playsR with name := "slices.partitionEqualCmpFunc[imageeditor/api.Point]" }))⟩,
  f27 := Exists.intro "slices.partitionCmpFunc[imageeditor/api.Point]" ⟨of_decide_eq_true (id (Eq.refl Bool.true)), Eq.trans Try.func80 (congrArg Option.some (Eq.refl { SlBodyF.n27 playsR with name := "slices.partitionCmpFunc[imageeditor/api.Point]" }))⟩,
  f28 := Eq.trans Try.func81 (congrArg Option.some (Eq.refl (SlBodyF.n28 playsR))),
  f29 := Eq.trans Try.func82 (congrArg Option.some (Eq.refl (SlBodyF.n29 playsR))),
  f46 := Exists.intro "slices.siftDownCmpFunc[imageeditor/api.Point]" ⟨of_decide_eq_true (id (Eq.refl Bool.true)), Eq.trans Try.func85 (congrArg Option.some (Eq.refl { SlBodyF.n46 playsR with name := "slices.siftDownCmpFunc[imageeditor/api.Point]" }))⟩,
  f47 := Eq.trans Try.func86 (congrArg Option.some (Eq.refl (SlBodyF.n47 playsR))),
  f48 := Eq.trans Try.func87 (congrArg Option.some (Eq.refl (SlBodyF.n48 playsR))),
  f49 := Exists.intro "slices.medianAdjacentCmpFunc[imageeditor/api.Point]" ⟨of_decide_eq_true (id (Eq.refl Bool.true)), Eq.trans Try.func88 (congrArg Option.some (Eq.refl { SlBodyF.n49 playsR with name := "slices.medianAdjacentCmpFunc[imageeditor/api.Point]" }))⟩,
  f50 := Exists.intro "slices.medianCmpFunc[imageeditor/api.Point]" ⟨of_decide_eq_true (id (Eq.refl Bool.true)), Eq.trans Try.func89 (congrArg Option.some (Eq.refl { SlBodyF.n50 playsR with name := "slices.medianCmpFunc[imageeditor/api.Point]" }))⟩,
  f57 := Exists.intro "slices.order2CmpFunc[imageeditor/api.Point]" ⟨of_decide_eq_true (id (Eq.refl Bool.true)), Eq.trans Try.func107 (congrArg Option.some (Eq.refl { SlBodyF.n57 playsR with name := "slices.order2CmpFunc[imageeditor/api.Point]" }))⟩,
  t0 := Try.underlying0,
  a0 := Try.isAgg0,
  z0 := Try.sizeOf0,
  v0 := Try.zeroValue0,
  t3 := Try.underlying3,
  a3 := Try.isAgg3,
  z3 := Try.sizeOf3,
  v3 := Try.zeroValue3,
  t4 := Try.underlying4,
  a4 := Try.isAgg4,
  z4 := Try.sizeOf4,
  v4 := Try.zeroValue4,
  t5 := Try.underlying5,
  a5 := Try.isAgg5,
  z5 := Try.sizeOf5,
  v5 := Try.zeroValue5,
  t9 := Try.underlying9,
  a9 := Try.isAgg9,
  z9 := Try.sizeOf9,
  v9 := Try.zeroValue9,
  t22 := Try.underlying38,
  a22 := Try.isAgg38,
  z22 := Try.sizeOf38,
  v22 := Try.zeroValue38,
  t25 := Try.underlying60,
  a25 := Try.isAgg60,
  z25 := Try.sizeOf60,
  v25 := Try.zeroValue60,
  t39 := Try.underlying72,
  a39 := Try.isAgg72,
  z39 := Try.sizeOf72,
  v39 := Try.zeroValue72,
  t45 := Try.underlying79,
  a45 := Try.isAgg79,
  z45 := Try.sizeOf79,
  v45 := Try.zeroValue79,
  t46 := Try.underlying80,
  a46 := Try.isAgg80,
  z46 := Try.sizeOf80,
  v46 := Try.zeroValue80,
  t50 := Try.underlying84,
  a50 := Try.isAgg84,
  z50 := Try.sizeOf84,
  v50 := Try.zeroValue84,
  t53 := Try.underlying87,
  a53 := Try.isAgg87,
  z53 := Try.sizeOf87,
  v53 := Try.zeroValue87,
  t55 := Try.underlying89,
  a55 := Try.isAgg89,
  z55 := Try.sizeOf89,
  v55 := Try.zeroValue89,
  t66 := Try.underlying92,
  a66 := Try.isAgg92,
  z66 := Try.sizeOf92,
  v66 := Try.zeroValue92,
  t70 := Try.underlying96,
  a70 := Try.isAgg96,
  z70 := Try.sizeOf96,
  v70 := Try.zeroValue96,
  t76 := Try.underlying108,
  a76 := Try.isAgg108,
  z76 := Try.sizeOf108,
  v76 := Try.zeroValue108,
  t77 := Try.underlying109,
  a77 := Try.isAgg109,
  z77 := Try.sizeOf109,
  v77 := Try.zeroValue109 }
theorem dss_ints {ok : Nat → Prop} {w : World} : ∀ {l : List Int} {vs : List Value}, RepDss ok w 1 (l.map iC) vs ↔ vs = l.map (Value.int .i64)
  | [], vs => by simp [RepDss]
  | a :: l, vs => by
    simp only [List.map_cons, RepDss, iC, RepDs, RepD]
    constructor
    · rintro ⟨v1, v2, rfl, hl, ⟨v, vs', rfl, rfl, _, rfl⟩, h⟩
      rw [dss_ints.1 h]; rfl
    · rintro rfl
      exact ⟨[.int .i64 a], l.map (Value.int .i64), rfl, rfl, ⟨_, [], rfl, rfl, rfl, rfl⟩, dss_ints.2 rfl⟩
theorem ssort_fx0 (l : List Int) (hl : 0 < l.length) : Eng.FnX Try.prog 69 [.mu (.arr 3 1 (l.map iC)) (.arr 3 1 ((sortL l).map iC)) 0 l.length 1] (.tup []) := by
  intro w vs ι hent hinj hargs
  have hg0 : geth (hpI 0 [PX.mu (.arr 3 1 (l.map iC)) (.arr 3 1 ((sortL l).map iC)) 0 l.length 1]) 30000 = some (true, .arr 3 1 (l.map iC)) := by simp [hpI, geth]
  have E := hent 30000 _ hg0
  rcases E with ⟨_, h2⟩ | ⟨b, cap, cur, h1, h2, h3, h4, h5, h6, h7⟩
  · simp at h2; subst h2; simp at hl
  simp only [List.length_map, Nat.mul_one] at h4 h5 h6 h7
  have h7' := dss_ints.1 h7
  simp only [RepX, PX.av, RepA, Nat.add_zero] at hargs
  obtain ⟨v, vs', e1, hv, e2⟩ := hargs
  subst e2
  have hv' : v = .slice (some ⟨b, 0, none⟩) l.length cap := by
    rcases hv with ⟨g1, _, _, g4⟩ | ⟨b', c', g1, g2, g3⟩
    · omega
    · rw [h1] at g1; simp only [Option.some.injEq, Prod.mk.injEq] at g1
      obtain ⟨rfl, rfl⟩ := g1
      simpa using g2
  have evs : vs = #[.slice (some ⟨b, 0, none⟩) l.length cap] := by
    rw [← hv']; apply Array.toList_inj.1; simpa using e1
  subst evs
  have hlen : (sortL l).length = l.length := sortL_len l
  refine (calls_of_every_depth fun D => AnyS.slices_Sort_int_in slays D b 0 cap l w (holds_of_blockI h3 h7') h2 (by omega)).mono ?_
  rintro e w' ⟨rfl, n, os, rfl⟩
  have hg := grownBy_sortedI (w := w) (g := b) (n := n) (os := os) (l.mergeSort fun x y => decide (x ≤ y)).toArray
  obtain ⟨g1, g2, g3, g4, g5⟩ := hg
  have hb := heap_sortedI (w := w) (g := b) (n := n) (os := os) (l.mergeSort fun x y => decide (x ≤ y)).toArray h3
  refine ⟨.tuple #[], rfl, ⟨g1, g2, g3, g4⟩, fun b' hb' => ?_, fun nm x hx => ?_, ?_⟩
  · refine g5 b' hb'.1 fun e => ?_
    simp only [Option.some.injEq] at e
    subst e
    exact hb'.2.1 30000 _ cap hg0 h1
  · simp only [hpO, geth] at hx
    cases hn : 30000 + 0 == nm
    · rw [hn] at hx; cases hx
    · rw [hn, cond_true] at hx
      simp only [beq_iff_eq] at hn; subst hn
      simp only [Option.some.injEq, Prod.mk.injEq, true_and] at hx
      subst hx
      refine .inr ⟨b, cap, _, h1, trivial, hb, ?_, ?_, ⟨h6.1, ?_⟩, ?_⟩
      · simp [Sort.putCells, h4]
      · simp [hlen]; exact h5
      · simp [hlen]; exact h6.2
      · simp only [List.length_map, Nat.mul_one]
        exact dss_ints.2 (take_putCellsI cur (sortL l) (by rw [hlen]; omega))
  · simp only [RepR, RepRs]
    exact ⟨[], rfl, rfl, trivial⟩

theorem ssort_fx (l : List Int) : Eng.FnX Try.prog 69 [.mu (.arr 3 1 (l.map iC)) (.arr 3 1 ((sortL l).map iC)) 0 l.length 1] (.tup []) := by
  by_cases hl : 0 < l.length
  · exact ssort_fx0 l hl
  have hl' : l = [] := List.eq_nil_of_length_eq_zero (by omega)
  subst hl'
  have hs : sortL [] = [] := by simp [sortL]
  rw [hs]
  intro w vs ι hent hinj hargs
  simp only [RepX, PX.av, RepA, Nat.add_zero] at hargs
  obtain ⟨v, vs', e1, hv, e2⟩ := hargs
  subst e2
  have evs : vs = #[v] := by apply Array.toList_inj.1; simpa using e1
  have hc : Calls Try.prog 69 vs w fun e w' => e = .returned (.tuple #[]) ∧ w' = w := by
    rw [evs]
    rcases hv with ⟨_, g2, _, _⟩ | ⟨b', c', _, g2, _⟩
    · rw [g2]; exact Any.slices_Sort_int_none slays none 0 w
    · rw [g2]; exact Any.slices_Sort_int_none slays _ _ w
  refine hc.mono ?_
  rintro e w' ⟨rfl, rfl⟩
  refine ⟨.tuple #[], rfl, ⟨rfl, rfl, rfl, Nat.le_refl _⟩, fun _ _ => rfl, fun nm x hx => ?_, ?_⟩
  · have := hent nm x (by simpa only [hpI, hpO] using hx)
    simp only [hpO, geth] at hx
    cases hn : 30000 + 0 == nm
    · rw [hn] at hx; cases hx
    · rw [hn, cond_true] at hx
      simp only [Option.some.injEq, Prod.mk.injEq, true_and] at hx
      subst hx
      rcases this with h | ⟨b, cap, cur, h1, h2, h3, h4, h5, h6, h7⟩
      · exact .inl h
      · exact .inr ⟨b, cap, cur, h1, trivial, h3, h4, h5, h6, by simp [RepDss]⟩
  · simp only [RepR, RepRs]
    exact ⟨[], rfl, rfl, trivial⟩

theorem isnan_c (a : Int) (W : World) : Calls Try.prog 67 #[.int .i64 a] W fun e w' => e = .returned (.bool false) ∧ w' = W := by
  go_enter Try.func67, Try.ntmps67
  go_wp2
  go_ret
  simp
set_option maxRecDepth 100000 in
set_option maxHeartbeats 1000000 in
theorem cmp_c (a b : Int) (W : World) : Calls Try.prog 54 #[.int .i64 a, .int .i64 b] W fun e w' => e = .returned (.int .i64 (cmpI a b)) ∧ w' = W := by
  have h1 := fun n W => isnan_c n W
  go_enter Try.func54, Try.ntmps54
  go_wp2_with (go_at_call 67; (refine (h1 _ _).mono ?_; rintro e w' ⟨rfl, rfl⟩))
  all_goals go_ret
  all_goals (refine ⟨?_, rfl⟩; unfold cmpI; (repeat' split) <;> simp_all <;> omega)
set_option maxRecDepth 100000 in
set_option maxHeartbeats 1000000 in
theorem or_c (x y : Int) (b o c : Nat) (W : World) (hx : W.cell? ⟨b, o, none⟩ = some (.int .i64 x)) (hy : W.cell? ⟨b, o + 1, none⟩ = some (.int .i64 y)) : Calls Try.prog 53 #[.slice (some ⟨b, o, none⟩) 2 c] W fun e w' => e = .returned (.int .i64 (orI [x, y])) ∧ w' = W := by
  go_enter Try.func53, Try.ntmps53
  go_wp2
  refine wp_loop_rounds 3 ?_
  rw [rounds_succ]
  go_wp2
  · go_ret; rename_i h; rw [or_3]; simp at h; simp [h]
  · rw [rounds_succ]
    go_wp2
    · go_ret; rename_i h _ _ h2; rw [or_3]; simp_all
    · rw [rounds_succ]
      go_wp2
      go_ret
      rename_i h _ _ h2; rw [or_3]; simp_all
theorem cellsA (W : World) (a b : Obj) {x y : Value} : (((((W.alloc a).alloc b).alloc (.cells #[x, y] 3)).drew).cell? ⟨W.heap.size + 1 + 1, 0, none⟩) = some x := by
  simp only [World.cell?, World.drew, World.alloc, Array.getElem?_push, Array.size_push]; simp
theorem cellsB (W : World) (a b : Obj) {x y : Value} : (((((W.alloc a).alloc b).alloc (.cells #[x, y] 3)).drew).cell? ⟨W.heap.size + 1 + 1, 0 + 1, none⟩) = some y := by
  simp only [World.cell?, World.drew, World.alloc, Array.getElem?_push, Array.size_push]; simp
theorem grow3 (W : World) (a b c : Obj) : ∃ n os', (((W.alloc a).alloc b).alloc c).drew = Go.Sort.grow (W.drewN n) os' :=
  ⟨1, #[a, b, c], by rw [Go.Sort.alloc_eq_grow, Go.Sort.alloc_eq_grow, Go.Sort.alloc_eq_grow, Go.Sort.grow_grow, Go.Sort.grow_grow]; rfl⟩

set_option maxRecDepth 100000 in
set_option maxHeartbeats 2000000 in
theorem rowcmp_c (p1 p2 q1 q2 : Int) (W : World) : Calls Try.prog 72 #[.agg #[.int .i64 p1, .int .i64 p2], .agg #[.int .i64 q1, .int .i64 q2]] W fun e w' => e = .returned (.int .i64 (orI [cmpI p1 q1, cmpI p2 q2])) ∧ ∃ n os', w' = Go.Sort.grow (W.drewN n) os' := by
  have h1 := fun a b W => cmp_c a b W
  go_enter Try.func72, Try.ntmps72
  go_wp2_with fail
  go_region_held3 (fun w' => w'.cell? ⟨W.heap.size, 0, none⟩ = some (.int .i64 p1) ∧ w'.cell? ⟨W.heap.size, 1, none⟩ = some (.int .i64 p2) ∧ w'.cell? ⟨W.heap.size + 1, 0, none⟩ = some (.int .i64 q1) ∧ w'.cell? ⟨W.heap.size + 1, 1, none⟩ = some (.int .i64 q2)) (go_keep)
    (first | (go_at_call 54; refine (h1 _ _ _).mono ?_; rintro e w' ⟨rfl, rfl⟩) | (go_at_call 53; refine (or_c (cmpI p1 q1) (cmpI p2 q2) _ _ _ _ ?_ ?_).mono ?_; (exact cellsA _ _ _); (exact cellsB _ _ _); rintro e w2 ⟨rfl, rfl⟩))
  all_goals go_wp2
  all_goals go_ret
  refine ⟨by simp, ?_⟩
  exact grow3 W _ _ _

def encRw (p : Rw) : List Value := [.int .i64 p.lo, .int .i64 p.hi]
theorem srtrw_fx_sort (l : List Rw) (b cap : Nat) (w : World) (hH : Go.Sort.HoldsK encRw 2 w b 0 l.toArray) (hb : b < w.heap.size) (hl : l.length < 4611686018427387904) :
    Calls Try.prog 71 #[.slice (some ⟨b, 0, none⟩) l.length cap, .func (.func 72) #[] #[]] w fun e w' => e = .returned (.tuple #[]) ∧ ∃ n os, w' = Go.Proofs.sortWorldK encRw 2 w b 0 n (srtRw l).toArray os := by
  have eg : ∀ args w, (callFunc 72 args).run Try.prog w = .ok (.enter 72 args) w := enters_of Try.func72 (by kernel_rfl) rfl
  have hcmp : Go.Proofs.CmpLays Try.prog 72 #[] encRw 2 cmpRw b 0 l.toArray.size w := fun _ _ _ _ x y => by
    have h := rowcmp_c x.lo x.hi y.lo y.hi
    rw [or_rw] at h
    exact h _
  have h := AnyQ.slices_SortFunc_total rlays 2 Try.isAgg46 Try.sizeOf46 encRw (fun _ => rfl) (fun x v hv => by simp [encRw] at hv; rcases hv with rfl | rfl <;> rfl) cmpRw swoRw 72 #[] b 0 cap l.toArray w eg hcmp hH hb hl totRw
  rw [predRw] at h
  simp only [List.size_toArray, List.toList_toArray] at h
  exact h
theorem srtrw_fx (l : List Rw) : Eng.FnX Try.prog 71 [.mu (.arr 46 2 (l.map rnC)) (.arr 46 2 ((srtRw l).map rnC)) 0 l.length 2, .ro (.dat (.v (.func (.func 72) #[] #[])))] (.tup []) :=
  srt2_fx (enc := encRw) (fun ok w x vs => by
    simp only [rnC, encRw, RepDs, RepD]
    constructor
    · rintro ⟨v, vs', rfl, rfl, _, v', vs'', rfl, rfl, _, rfl⟩; rfl
    · rintro rfl; exact ⟨_, _, rfl, rfl, rfl, _, _, rfl, rfl, rfl, rfl⟩) (fun _ => rfl) srtRw_len srtrw_fx_sort (fun p cap w => AnyF.slices_SortFunc_none rlays p cap _ w) l

set_option maxRecDepth 100000 in
set_option maxHeartbeats 2000000 in
theorem tilecmp_c (p1 p2 q1 q2 : Int) (W : World) : Calls Try.prog 52 #[.agg #[.int .i64 p1, .int .i64 p2], .agg #[.int .i64 q1, .int .i64 q2]] W fun e w' => e = .returned (.int .i64 (orI [cmpI p2 q2, cmpI p1 q1])) ∧ ∃ n os', w' = Go.Sort.grow (W.drewN n) os' := by
  have h1 := fun a b W => cmp_c a b W
  go_enter Try.func52, Try.ntmps52
  go_wp2_with fail
  go_region_held3 (fun w' => w'.cell? ⟨W.heap.size, 0, none⟩ = some (.int .i64 p1) ∧ w'.cell? ⟨W.heap.size, 1, none⟩ = some (.int .i64 p2) ∧ w'.cell? ⟨W.heap.size + 1, 0, none⟩ = some (.int .i64 q1) ∧ w'.cell? ⟨W.heap.size + 1, 1, none⟩ = some (.int .i64 q2)) (go_keep)
    (first | (go_at_call 54; refine (h1 _ _ _).mono ?_; rintro e w' ⟨rfl, rfl⟩) | (go_at_call 53; refine (or_c (cmpI p2 q2) (cmpI p1 q1) _ _ _ _ ?_ ?_).mono ?_; (exact cellsA _ _ _); (exact cellsB _ _ _); rintro e w2 ⟨rfl, rfl⟩))
  all_goals go_wp2
  all_goals go_ret
  refine ⟨by simp, ?_⟩
  exact grow3 W _ _ _

def encPt (p : Pt) : List Value := [.int .i64 p.x, .int .i64 p.y]
theorem srtpt_fx_sort (l : List Pt) (b cap : Nat) (w : World) (hH : Go.Sort.HoldsK encPt 2 w b 0 l.toArray) (hb : b < w.heap.size) (hl : l.length < 4611686018427387904) :
    Calls Try.prog 51 #[.slice (some ⟨b, 0, none⟩) l.length cap, .func (.func 52) #[] #[]] w fun e w' => e = .returned (.tuple #[]) ∧ ∃ n os, w' = Go.Proofs.sortWorldK encPt 2 w b 0 n (srtPt l).toArray os := by
  have eg : ∀ args w, (callFunc 52 args).run Try.prog w = .ok (.enter 52 args) w := enters_of Try.func52 (by kernel_rfl) rfl
  have hcmp : Go.Proofs.CmpLays Try.prog 52 #[] encPt 2 cmpPt b 0 l.toArray.size w := fun _ _ _ _ x y => by
    have h := tilecmp_c x.x x.y y.x y.y
    rw [or_pt] at h
    exact h _
  have h := AnyQ.slices_SortFunc_total plays 2 Try.isAgg29 Try.sizeOf29 encPt (fun _ => rfl) (fun x v hv => by simp [encPt] at hv; rcases hv with rfl | rfl <;> rfl) cmpPt swoPt 52 #[] b 0 cap l.toArray w eg hcmp hH hb hl totPt
  rw [predPt] at h
  simp only [List.size_toArray, List.toList_toArray] at h
  exact h
theorem srtpt_fx (l : List Pt) : Eng.FnX Try.prog 51 [.mu (.arr 29 2 (l.map ptC)) (.arr 29 2 ((srtPt l).map ptC)) 0 l.length 2, .ro (.dat (.v (.func (.func 52) #[] #[])))] (.tup []) :=
  srt2_fx (enc := encPt) (fun ok w x vs => by
    simp only [ptC, encPt, RepDs, RepD]
    constructor
    · rintro ⟨v, vs', rfl, rfl, _, v', vs'', rfl, rfl, _, rfl⟩; rfl
    · rintro rfl; exact ⟨_, _, rfl, rfl, rfl, _, _, rfl, rfl, rfl, rfl⟩) (fun _ => rfl) srtPt_len srtpt_fx_sort (fun p cap w => AnyF.slices_SortFunc_none plays p cap _ w) l
end Go.S03

