/-
  No cell of these rows narrows 'for every input' (looked for: loops, veiled, ifaces, maps, wideKeys, modest, calm, conditions, laid).
  DERIVED. THE GIVEN ROWS OF THIS SEAT. 7 by the template 'for every input the law returns true; each argument reads behind the call as it read before'; 0 by the template 'total and deterministic' (their statements: YtnbeigcjhpldmaaTotals.lean).
  GIVEN WITH THE SEED: the statements are not yours to turn. If you find one false, say at which input.
  Laid BY PROGRAM, IN A SANDBOX (cutbox-rows.mjs): the forced cells as the released guide's own fill.sh prints them over the translation d970ae94885867b2… (all of the seat's roots in one cut). By AI agents, Wed Nov 11 2026. No macro, syntax, notation, axiom, sorry.
-/
import Derived.Test.YtnbeigcjhpldmaaChecked
import GoSem.Claim
import GoSem.ClaimJoined
import GoSem.ClaimMapViews
import Derived.JoinedTies
import Derived.KernelRfl
namespace Go.Proofs.Ytnbeigcjhpldmaa
/- THE CELL 'sum', in the pinned program and in every row, IS THE sha256 OF THE DUMP (.gsa) THAT YtnbeigcjhpldmaaProg.lean LOADS. Nothing in Lean hashes anything: it is a label: what it is worth is what the hold of that sum in a sandbox is worth. -/
noncomputable def Try.pinned : Pinned := { name := "ytnbeigcjhpldmaa", sum := "d970ae94885867b214807e1e18a87a64e9cf5a96190f09697c84f137202e18fe", checked := Try.checked }
namespace Rows
def none {H : Type} : Left H := { results := [], args := [] }

/-- 'imageeditorlaw03.RegionCanons': WHATEVER THE INPUT: true; the input reads as it did. -/
def regionCanonsSpec : ChangeSpec := { name := "regionCanons", fn := fun _ => fun
  | [d] => { results := [.lit (.bool true)], args := [d] }
  | _ => none }
def regionCanonsRow : OpenClaim := { program := "ytnbeigcjhpldmaa", sum := "d970ae94885867b214807e1e18a87a64e9cf5a96190f09697c84f137202e18fe", func := "imageeditor/imageeditorlaw03.RegionCanons", spec := "regionCanons", unfollowed := true, recurses := true, plainKeys := false, apart := false }
def RegionCanonsSaid : Prop := regionCanonsRow.holds Try.pinned (OpenSpec.ofChange regionCanonsSpec)

/-- ITS FALSE NEIGHBOUR: 'it returns false'. Refute it at one input. -/
def regionCanonsWrong : ChangeSpec := { name := "regionCanons", fn := fun _ => fun
  | [d] => { results := [.lit (.bool false)], args := [d] }
  | _ => none }
def RegionCanonsWrongFalsely : Prop := regionCanonsRow.holds Try.pinned (OpenSpec.ofChange regionCanonsWrong)

/-- 'imageeditorlaw03.RegionSets': WHATEVER THE INPUT: true; the input reads as it did. -/
def regionSetsSpec : ChangeSpec := { name := "regionSets", fn := fun _ => fun
  | [d1, d2] => { results := [.lit (.bool true)], args := [d1, d2] }
  | _ => none }
def regionSetsRow : OpenClaim := { program := "ytnbeigcjhpldmaa", sum := "d970ae94885867b214807e1e18a87a64e9cf5a96190f09697c84f137202e18fe", func := "imageeditor/imageeditorlaw03.RegionSets", spec := "regionSets", unfollowed := true, recurses := true, plainKeys := false, apart := false }
def RegionSetsSaid : Prop := regionSetsRow.holds Try.pinned (OpenSpec.ofChange regionSetsSpec)

/-- ITS FALSE NEIGHBOUR: 'it returns false'. Refute it at one input. -/
def regionSetsWrong : ChangeSpec := { name := "regionSets", fn := fun _ => fun
  | [d1, d2] => { results := [.lit (.bool false)], args := [d1, d2] }
  | _ => none }
def RegionSetsWrongFalsely : Prop := regionSetsRow.holds Try.pinned (OpenSpec.ofChange regionSetsWrong)

/-- 'imageeditorlaw03.RegionMeasures': WHATEVER THE INPUT: true; the input reads as it did. -/
def regionMeasuresSpec : ChangeSpec := { name := "regionMeasures", fn := fun _ => fun
  | [d1, d2] => { results := [.lit (.bool true)], args := [d1, d2] }
  | _ => none }
def regionMeasuresRow : OpenClaim := { program := "ytnbeigcjhpldmaa", sum := "d970ae94885867b214807e1e18a87a64e9cf5a96190f09697c84f137202e18fe", func := "imageeditor/imageeditorlaw03.RegionMeasures", spec := "regionMeasures", unfollowed := true, recurses := true, plainKeys := false, apart := false }
def RegionMeasuresSaid : Prop := regionMeasuresRow.holds Try.pinned (OpenSpec.ofChange regionMeasuresSpec)

/-- ITS FALSE NEIGHBOUR: 'it returns false'. Refute it at one input. -/
def regionMeasuresWrong : ChangeSpec := { name := "regionMeasures", fn := fun _ => fun
  | [d1, d2] => { results := [.lit (.bool false)], args := [d1, d2] }
  | _ => none }
def RegionMeasuresWrongFalsely : Prop := regionMeasuresRow.holds Try.pinned (OpenSpec.ofChange regionMeasuresWrong)

/-- 'imageeditorlaw03.RegionPixels': WHATEVER THE INPUT: true; the input reads as it did. -/
def regionPixelsSpec : ChangeSpec := { name := "regionPixels", fn := fun _ => fun
  | [d1, d2, d3] => { results := [.lit (.bool true)], args := [d1, d2, d3] }
  | _ => none }
def regionPixelsRow : OpenClaim := { program := "ytnbeigcjhpldmaa", sum := "d970ae94885867b214807e1e18a87a64e9cf5a96190f09697c84f137202e18fe", func := "imageeditor/imageeditorlaw03.RegionPixels", spec := "regionPixels", unfollowed := true, recurses := true, plainKeys := false, apart := false }
def RegionPixelsSaid : Prop := regionPixelsRow.holds Try.pinned (OpenSpec.ofChange regionPixelsSpec)

/-- ITS FALSE NEIGHBOUR: 'it returns false'. Refute it at one input. -/
def regionPixelsWrong : ChangeSpec := { name := "regionPixels", fn := fun _ => fun
  | [d1, d2, d3] => { results := [.lit (.bool false)], args := [d1, d2, d3] }
  | _ => none }
def RegionPixelsWrongFalsely : Prop := regionPixelsRow.holds Try.pinned (OpenSpec.ofChange regionPixelsWrong)

/-- 'imageeditorlaw03.RegionAreas': WHATEVER THE INPUT: true; the input reads as it did. -/
def regionAreasSpec : ChangeSpec := { name := "regionAreas", fn := fun _ => fun
  | [d1, d2] => { results := [.lit (.bool true)], args := [d1, d2] }
  | _ => none }
def regionAreasRow : OpenClaim := { program := "ytnbeigcjhpldmaa", sum := "d970ae94885867b214807e1e18a87a64e9cf5a96190f09697c84f137202e18fe", func := "imageeditor/imageeditorlaw03.RegionAreas", spec := "regionAreas", unfollowed := true, recurses := true, plainKeys := false, apart := false }
def RegionAreasSaid : Prop := regionAreasRow.holds Try.pinned (OpenSpec.ofChange regionAreasSpec)

/-- ITS FALSE NEIGHBOUR: 'it returns false'. Refute it at one input. -/
def regionAreasWrong : ChangeSpec := { name := "regionAreas", fn := fun _ => fun
  | [d1, d2] => { results := [.lit (.bool false)], args := [d1, d2] }
  | _ => none }
def RegionAreasWrongFalsely : Prop := regionAreasRow.holds Try.pinned (OpenSpec.ofChange regionAreasWrong)

/-- 'imageeditorlaw03.RegionGrowth': WHATEVER THE INPUT: true; the input reads as it did. -/
def regionGrowthSpec : ChangeSpec := { name := "regionGrowth", fn := fun _ => fun
  | [d1, d2, d3] => { results := [.lit (.bool true)], args := [d1, d2, d3] }
  | _ => none }
def regionGrowthRow : OpenClaim := { program := "ytnbeigcjhpldmaa", sum := "d970ae94885867b214807e1e18a87a64e9cf5a96190f09697c84f137202e18fe", func := "imageeditor/imageeditorlaw03.RegionGrowth", spec := "regionGrowth", unfollowed := true, recurses := true, plainKeys := false, apart := false }
def RegionGrowthSaid : Prop := regionGrowthRow.holds Try.pinned (OpenSpec.ofChange regionGrowthSpec)

/-- ITS FALSE NEIGHBOUR: 'it returns false'. Refute it at one input. -/
def regionGrowthWrong : ChangeSpec := { name := "regionGrowth", fn := fun _ => fun
  | [d1, d2, d3] => { results := [.lit (.bool false)], args := [d1, d2, d3] }
  | _ => none }
def RegionGrowthWrongFalsely : Prop := regionGrowthRow.holds Try.pinned (OpenSpec.ofChange regionGrowthWrong)

/-- 'imageeditorlaw03.RegionTiles': WHATEVER THE INPUT: true; the input reads as it did. -/
def regionTilesSpec : ChangeSpec := { name := "regionTiles", fn := fun _ => fun
  | [d1, d2] => { results := [.lit (.bool true)], args := [d1, d2] }
  | _ => none }
def regionTilesRow : OpenClaim := { program := "ytnbeigcjhpldmaa", sum := "d970ae94885867b214807e1e18a87a64e9cf5a96190f09697c84f137202e18fe", func := "imageeditor/imageeditorlaw03.RegionTiles", spec := "regionTiles", unfollowed := true, recurses := true, plainKeys := false, apart := false }
def RegionTilesSaid : Prop := regionTilesRow.holds Try.pinned (OpenSpec.ofChange regionTilesSpec)

/-- ITS FALSE NEIGHBOUR: 'it returns false'. Refute it at one input. -/
def regionTilesWrong : ChangeSpec := { name := "regionTiles", fn := fun _ => fun
  | [d1, d2] => { results := [.lit (.bool false)], args := [d1, d2] }
  | _ => none }
def RegionTilesWrongFalsely : Prop := regionTilesRow.holds Try.pinned (OpenSpec.ofChange regionTilesWrong)

/- THE SECOND FORM. 'bulk': how many values and letters a reading holds, each counted each time it is reached (what is shared counts as often as it is met; a slice's spare places count too). A statement '..UptoSaid' is the law's where the arguments, and the package variables that the reading takes, are together of bulk at most 1048576: NARROWER than '..Said'. Prove '..Said' where nothing that the law and all that it calls make is longer than what came in: it says more and counts as full. Else prove '..UptoSaid'. A law counts once. -/
mutual
def uptoBulk {H : Type} : DataW H → Nat
  | .lit (.string bytes) => bytes.length + 1
  | .lit _ => 1
  | .nil => 1
  | .ptr d => uptoBulk d + 1
  | .slice elems spare => uptoBulkAll elems + uptoBulkAll spare + 1
  | .agg parts => uptoBulkAll parts + 1
  | .iface _ d => uptoBulk d + 1
  | .map entries => uptoBulkEntries entries + 1
  | .held _ => 1
def uptoBulkAll {H : Type} : List (DataW H) → Nat
  | [] => 0
  | d :: r => uptoBulk d + uptoBulkAll r
def uptoBulkEntries {H : Type} : List (Lit × DataW H) → Nat
  | [] => 0
  | x :: r => uptoBulkEntry x + uptoBulkEntries r
def uptoBulkEntry {H : Type} : Lit × DataW H → Nat
  | (.string bytes, d) => bytes.length + uptoBulk d + 1
  | (_, d) => uptoBulk d + 1
 end
def uptoSmall : (H : Type) → List (DataW H) → Bool := fun _ ds => decide (uptoBulkAll ds ≤ 1048576)
def OpenSpec.upto (s : _root_.Go.ChangeSpec) : _root_.Go.OpenSpec := { _root_.Go.OpenSpec.ofChange s with cond := some uptoSmall }

/-- 'imageeditorlaw03.RegionCanons', WHERE WHAT IT READS IS OF BULK AT MOST 1048576: true; the input reads as it did. -/
def regionCanonsUptoRow : OpenClaim := { program := "ytnbeigcjhpldmaa", sum := "d970ae94885867b214807e1e18a87a64e9cf5a96190f09697c84f137202e18fe", func := "imageeditor/imageeditorlaw03.RegionCanons", spec := "regionCanons", unfollowed := true, recurses := true, plainKeys := false, apart := false, narrowed := true }
def RegionCanonsUptoSaid : Prop := regionCanonsUptoRow.holds Try.pinned (OpenSpec.upto regionCanonsSpec)

/-- 'imageeditorlaw03.RegionSets', WHERE WHAT IT READS IS OF BULK AT MOST 1048576: true; the input reads as it did. -/
def regionSetsUptoRow : OpenClaim := { program := "ytnbeigcjhpldmaa", sum := "d970ae94885867b214807e1e18a87a64e9cf5a96190f09697c84f137202e18fe", func := "imageeditor/imageeditorlaw03.RegionSets", spec := "regionSets", unfollowed := true, recurses := true, plainKeys := false, apart := false, narrowed := true }
def RegionSetsUptoSaid : Prop := regionSetsUptoRow.holds Try.pinned (OpenSpec.upto regionSetsSpec)

/-- 'imageeditorlaw03.RegionMeasures', WHERE WHAT IT READS IS OF BULK AT MOST 1048576: true; the input reads as it did. -/
def regionMeasuresUptoRow : OpenClaim := { program := "ytnbeigcjhpldmaa", sum := "d970ae94885867b214807e1e18a87a64e9cf5a96190f09697c84f137202e18fe", func := "imageeditor/imageeditorlaw03.RegionMeasures", spec := "regionMeasures", unfollowed := true, recurses := true, plainKeys := false, apart := false, narrowed := true }
def RegionMeasuresUptoSaid : Prop := regionMeasuresUptoRow.holds Try.pinned (OpenSpec.upto regionMeasuresSpec)

/-- 'imageeditorlaw03.RegionPixels', WHERE WHAT IT READS IS OF BULK AT MOST 1048576: true; the input reads as it did. -/
def regionPixelsUptoRow : OpenClaim := { program := "ytnbeigcjhpldmaa", sum := "d970ae94885867b214807e1e18a87a64e9cf5a96190f09697c84f137202e18fe", func := "imageeditor/imageeditorlaw03.RegionPixels", spec := "regionPixels", unfollowed := true, recurses := true, plainKeys := false, apart := false, narrowed := true }
def RegionPixelsUptoSaid : Prop := regionPixelsUptoRow.holds Try.pinned (OpenSpec.upto regionPixelsSpec)

/-- 'imageeditorlaw03.RegionAreas', WHERE WHAT IT READS IS OF BULK AT MOST 1048576: true; the input reads as it did. -/
def regionAreasUptoRow : OpenClaim := { program := "ytnbeigcjhpldmaa", sum := "d970ae94885867b214807e1e18a87a64e9cf5a96190f09697c84f137202e18fe", func := "imageeditor/imageeditorlaw03.RegionAreas", spec := "regionAreas", unfollowed := true, recurses := true, plainKeys := false, apart := false, narrowed := true }
def RegionAreasUptoSaid : Prop := regionAreasUptoRow.holds Try.pinned (OpenSpec.upto regionAreasSpec)

/-- 'imageeditorlaw03.RegionGrowth', WHERE WHAT IT READS IS OF BULK AT MOST 1048576: true; the input reads as it did. -/
def regionGrowthUptoRow : OpenClaim := { program := "ytnbeigcjhpldmaa", sum := "d970ae94885867b214807e1e18a87a64e9cf5a96190f09697c84f137202e18fe", func := "imageeditor/imageeditorlaw03.RegionGrowth", spec := "regionGrowth", unfollowed := true, recurses := true, plainKeys := false, apart := false, narrowed := true }
def RegionGrowthUptoSaid : Prop := regionGrowthUptoRow.holds Try.pinned (OpenSpec.upto regionGrowthSpec)

/-- 'imageeditorlaw03.RegionTiles', WHERE WHAT IT READS IS OF BULK AT MOST 1048576: true; the input reads as it did. -/
def regionTilesUptoRow : OpenClaim := { program := "ytnbeigcjhpldmaa", sum := "d970ae94885867b214807e1e18a87a64e9cf5a96190f09697c84f137202e18fe", func := "imageeditor/imageeditorlaw03.RegionTiles", spec := "regionTiles", unfollowed := true, recurses := true, plainKeys := false, apart := false, narrowed := true }
def RegionTilesUptoSaid : Prop := regionTilesUptoRow.holds Try.pinned (OpenSpec.upto regionTilesSpec)

end Rows
end Go.Proofs.Ytnbeigcjhpldmaa
