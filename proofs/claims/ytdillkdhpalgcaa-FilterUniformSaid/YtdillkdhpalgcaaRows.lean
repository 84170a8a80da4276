/-
  No cell of these rows narrows 'for every input' (looked for: loops, veiled, ifaces, maps, wideKeys, modest, calm, conditions, laid).
  DERIVED. THE GIVEN ROWS OF THIS SEAT. 4 by the template 'for every input the law returns true; each argument reads behind the call as it read before'; 0 by the template 'total and deterministic' (their statements: YtdillkdhpalgcaaTotals.lean).
  GIVEN WITH THE SEED: the statements are not yours to turn. If you find one false, say at which input.
  Laid BY PROGRAM, IN A SANDBOX (cutbox-rows.mjs): the forced cells as the released guide's own fill.sh prints them over the translation 105845c3e2d62e55… (all of the seat's roots in one cut). By AI agents, Wed Nov 11 2026. No macro, syntax, notation, axiom, sorry.
-/
import Derived.Test.YtdillkdhpalgcaaChecked
import GoSem.Claim
import GoSem.ClaimJoined
import GoSem.ClaimMapViews
import Derived.JoinedTies
import Derived.KernelRfl
namespace Go.Proofs.Ytdillkdhpalgcaa
/- THE CELL 'sum', in the pinned program and in every row, IS THE sha256 OF THE DUMP (.gsa) THAT YtdillkdhpalgcaaProg.lean LOADS. Nothing in Lean hashes anything: it is a label: what it is worth is what the hold of that sum in a sandbox is worth. -/
noncomputable def Try.pinned : Pinned := { name := "ytdillkdhpalgcaa", sum := "105845c3e2d62e55f2a4b9383c7e897e986c66b7b2bb8c884591860f352a2a07", checked := Try.checked }
namespace Rows
def none {H : Type} : Left H := { results := [], args := [] }

/-- 'imageeditorlaw16.FilterNeeds': WHATEVER THE INPUT: true; the input reads as it did. -/
def filterNeedsSpec : ChangeSpec := { name := "filterNeeds", fn := fun _ => fun
  | [d] => { results := [.lit (.bool true)], args := [d] }
  | _ => none }
def filterNeedsRow : OpenClaim := { program := "ytdillkdhpalgcaa", sum := "105845c3e2d62e55f2a4b9383c7e897e986c66b7b2bb8c884591860f352a2a07", func := "imageeditor/imageeditorlaw16.FilterNeeds", spec := "filterNeeds", inPlace := ["math/bits.Add64"], unfollowed := true, recurses := true, apart := false }
def FilterNeedsSaid : Prop := filterNeedsRow.holds Try.pinned (OpenSpec.ofChange filterNeedsSpec)

/-- ITS FALSE NEIGHBOUR: 'it returns false'. Refute it at one input. -/
def filterNeedsWrong : ChangeSpec := { name := "filterNeeds", fn := fun _ => fun
  | [d] => { results := [.lit (.bool false)], args := [d] }
  | _ => none }
def FilterNeedsWrongFalsely : Prop := filterNeedsRow.holds Try.pinned (OpenSpec.ofChange filterNeedsWrong)

/-- 'imageeditorlaw16.FilterParts': WHATEVER THE INPUT: true; the input reads as it did. -/
def filterPartsSpec : ChangeSpec := { name := "filterParts", fn := fun _ => fun
  | [d] => { results := [.lit (.bool true)], args := [d] }
  | _ => none }
def filterPartsRow : OpenClaim := { program := "ytdillkdhpalgcaa", sum := "105845c3e2d62e55f2a4b9383c7e897e986c66b7b2bb8c884591860f352a2a07", func := "imageeditor/imageeditorlaw16.FilterParts", spec := "filterParts", inPlace := ["math/bits.Add64"], unfollowed := true, recurses := true, apart := false }
def FilterPartsSaid : Prop := filterPartsRow.holds Try.pinned (OpenSpec.ofChange filterPartsSpec)

/-- ITS FALSE NEIGHBOUR: 'it returns false'. Refute it at one input. -/
def filterPartsWrong : ChangeSpec := { name := "filterParts", fn := fun _ => fun
  | [d] => { results := [.lit (.bool false)], args := [d] }
  | _ => none }
def FilterPartsWrongFalsely : Prop := filterPartsRow.holds Try.pinned (OpenSpec.ofChange filterPartsWrong)

/-- 'imageeditorlaw16.FilterUniform': WHATEVER THE INPUT: true; the input reads as it did. -/
def filterUniformSpec : ChangeSpec := { name := "filterUniform", fn := fun _ => fun
  | [d] => { results := [.lit (.bool true)], args := [d] }
  | _ => none }
def filterUniformRow : OpenClaim := { program := "ytdillkdhpalgcaa", sum := "105845c3e2d62e55f2a4b9383c7e897e986c66b7b2bb8c884591860f352a2a07", func := "imageeditor/imageeditorlaw16.FilterUniform", spec := "filterUniform", inPlace := ["math/bits.Add64"], unfollowed := true, recurses := true, apart := false }
def FilterUniformSaid : Prop := filterUniformRow.holds Try.pinned (OpenSpec.ofChange filterUniformSpec)

/-- ITS FALSE NEIGHBOUR: 'it returns false'. Refute it at one input. -/
def filterUniformWrong : ChangeSpec := { name := "filterUniform", fn := fun _ => fun
  | [d] => { results := [.lit (.bool false)], args := [d] }
  | _ => none }
def FilterUniformWrongFalsely : Prop := filterUniformRow.holds Try.pinned (OpenSpec.ofChange filterUniformWrong)

/-- 'imageeditorlaw16.FilterOrders': WHATEVER THE INPUT: true; the input reads as it did. -/
def filterOrdersSpec : ChangeSpec := { name := "filterOrders", fn := fun _ => fun
  | [d1, d2] => { results := [.lit (.bool true)], args := [d1, d2] }
  | _ => none }
def filterOrdersRow : OpenClaim := { program := "ytdillkdhpalgcaa", sum := "105845c3e2d62e55f2a4b9383c7e897e986c66b7b2bb8c884591860f352a2a07", func := "imageeditor/imageeditorlaw16.FilterOrders", spec := "filterOrders", inPlace := ["math/bits.Add64"], unfollowed := true, recurses := true, apart := false }
def FilterOrdersSaid : Prop := filterOrdersRow.holds Try.pinned (OpenSpec.ofChange filterOrdersSpec)

/-- ITS FALSE NEIGHBOUR: 'it returns false'. Refute it at one input. -/
def filterOrdersWrong : ChangeSpec := { name := "filterOrders", fn := fun _ => fun
  | [d1, d2] => { results := [.lit (.bool false)], args := [d1, d2] }
  | _ => none }
def FilterOrdersWrongFalsely : Prop := filterOrdersRow.holds Try.pinned (OpenSpec.ofChange filterOrdersWrong)

/- THE SECOND FORM. 'bulk': how many values and letters a reading holds, each counted each time it is reached (what is shared counts as often as it is met; a slice's spare places count too). A statement '..UptoSaid' is the law's where the arguments, and the package variables that the reading takes, are together of bulk at most 1048576: NARROWER than '..Said'. Prove '..Said' where nothing that the law and all that it calls make is longer than what came in: it says more and counts as full. Else prove '..UptoSaid'. A law counts once. -/
mutual
def uptoBulk {H : Type} : DataW H → Nat
  | .lit (.string bytes) => bytes.length + 1
  | .lit _ => 1
  | .nil => 1
  | .ptr d => uptoBulk d + 1
  | .slice elems spare => uptoBulkAll elems + uptoBulkAll spare + 1
  | .agg parts => uptoBulkAll parts + 1
  | .iface _ d => uptoBulk d + 1
  | .map entries => uptoBulkEntries entries + 1
  | .held _ => 1
def uptoBulkAll {H : Type} : List (DataW H) → Nat
  | [] => 0
  | d :: r => uptoBulk d + uptoBulkAll r
def uptoBulkEntries {H : Type} : List (Lit × DataW H) → Nat
  | [] => 0
  | x :: r => uptoBulkEntry x + uptoBulkEntries r
def uptoBulkEntry {H : Type} : Lit × DataW H → Nat
  | (.string bytes, d) => bytes.length + uptoBulk d + 1
  | (_, d) => uptoBulk d + 1
 end
def uptoSmall : (H : Type) → List (DataW H) → Bool := fun _ ds => decide (uptoBulkAll ds ≤ 1048576)
def OpenSpec.upto (s : _root_.Go.ChangeSpec) : _root_.Go.OpenSpec := { _root_.Go.OpenSpec.ofChange s with cond := some uptoSmall }

/-- 'imageeditorlaw16.FilterNeeds', WHERE WHAT IT READS IS OF BULK AT MOST 1048576: true; the input reads as it did. -/
def filterNeedsUptoRow : OpenClaim := { program := "ytdillkdhpalgcaa", sum := "105845c3e2d62e55f2a4b9383c7e897e986c66b7b2bb8c884591860f352a2a07", func := "imageeditor/imageeditorlaw16.FilterNeeds", spec := "filterNeeds", inPlace := ["math/bits.Add64"], unfollowed := true, recurses := true, apart := false, narrowed := true }
def FilterNeedsUptoSaid : Prop := filterNeedsUptoRow.holds Try.pinned (OpenSpec.upto filterNeedsSpec)

/-- 'imageeditorlaw16.FilterParts', WHERE WHAT IT READS IS OF BULK AT MOST 1048576: true; the input reads as it did. -/
def filterPartsUptoRow : OpenClaim := { program := "ytdillkdhpalgcaa", sum := "105845c3e2d62e55f2a4b9383c7e897e986c66b7b2bb8c884591860f352a2a07", func := "imageeditor/imageeditorlaw16.FilterParts", spec := "filterParts", inPlace := ["math/bits.Add64"], unfollowed := true, recurses := true, apart := false, narrowed := true }
def FilterPartsUptoSaid : Prop := filterPartsUptoRow.holds Try.pinned (OpenSpec.upto filterPartsSpec)

/-- 'imageeditorlaw16.FilterUniform', WHERE WHAT IT READS IS OF BULK AT MOST 1048576: true; the input reads as it did. -/
def filterUniformUptoRow : OpenClaim := { program := "ytdillkdhpalgcaa", sum := "105845c3e2d62e55f2a4b9383c7e897e986c66b7b2bb8c884591860f352a2a07", func := "imageeditor/imageeditorlaw16.FilterUniform", spec := "filterUniform", inPlace := ["math/bits.Add64"], unfollowed := true, recurses := true, apart := false, narrowed := true }
def FilterUniformUptoSaid : Prop := filterUniformUptoRow.holds Try.pinned (OpenSpec.upto filterUniformSpec)

/-- 'imageeditorlaw16.FilterOrders', WHERE WHAT IT READS IS OF BULK AT MOST 1048576: true; the input reads as it did. -/
def filterOrdersUptoRow : OpenClaim := { program := "ytdillkdhpalgcaa", sum := "105845c3e2d62e55f2a4b9383c7e897e986c66b7b2bb8c884591860f352a2a07", func := "imageeditor/imageeditorlaw16.FilterOrders", spec := "filterOrders", inPlace := ["math/bits.Add64"], unfollowed := true, recurses := true, apart := false, narrowed := true }
def FilterOrdersUptoSaid : Prop := filterOrdersUptoRow.holds Try.pinned (OpenSpec.upto filterOrdersSpec)

end Rows
end Go.Proofs.Ytdillkdhpalgcaa
