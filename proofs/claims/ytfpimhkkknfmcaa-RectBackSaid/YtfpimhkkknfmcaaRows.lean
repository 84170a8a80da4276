/-
  No cell of these rows narrows 'for every input' (looked for: loops, veiled, ifaces, maps, wideKeys, modest, calm, conditions, laid).
  DERIVED. THE GIVEN ROWS OF THIS SEAT. 9 by the template 'for every input the law returns true; each argument reads behind the call as it read before'; 0 by the template 'total and deterministic' (their statements: YtfpimhkkknfmcaaTotals.lean).
  GIVEN WITH THE SEED: the statements are not yours to turn. If you find one false, say at which input.
  Laid BY PROGRAM, IN A SANDBOX (cutbox-rows.mjs): the forced cells as the released guide's own fill.sh prints them over the translation 497485bd4d0127a0… (all of the seat's roots in one cut). By AI agents, Wed Nov 11 2026. No macro, syntax, notation, axiom, sorry.
-/
import Derived.Test.YtfpimhkkknfmcaaChecked
import GoSem.Claim
import GoSem.ClaimJoined
import GoSem.ClaimMapViews
import Derived.JoinedTies
import Derived.KernelRfl
namespace Go.Proofs.Ytfpimhkkknfmcaa
/- THE CELL 'sum', in the pinned program and in every row, IS THE sha256 OF THE DUMP (.gsa) THAT YtfpimhkkknfmcaaProg.lean LOADS. Nothing in Lean hashes anything: it is a label: what it is worth is what the hold of that sum in a sandbox is worth. -/
noncomputable def Try.pinned : Pinned := { name := "ytfpimhkkknfmcaa", sum := "497485bd4d0127a020a6744ba2b8732eeb4dc7d31fa097960eb4ca3ecfbea0e6", checked := Try.checked }
namespace Rows
def none {H : Type} : Left H := { results := [], args := [] }

/-- 'imageeditorlaw02.RectTells': WHATEVER THE INPUT: true; the input reads as it did. -/
def rectTellsSpec : ChangeSpec := { name := "rectTells", fn := fun _ => fun
  | [d1, d2] => { results := [.lit (.bool true)], args := [d1, d2] }
  | _ => none }
def rectTellsRow : OpenClaim := { program := "ytfpimhkkknfmcaa", sum := "497485bd4d0127a020a6744ba2b8732eeb4dc7d31fa097960eb4ca3ecfbea0e6", func := "imageeditor/imageeditorlaw02.RectTells", spec := "rectTells", apart := false }
def RectTellsSaid : Prop := rectTellsRow.holds Try.pinned (OpenSpec.ofChange rectTellsSpec)

/-- ITS FALSE NEIGHBOUR: 'it returns false'. Refute it at one input. -/
def rectTellsWrong : ChangeSpec := { name := "rectTells", fn := fun _ => fun
  | [d1, d2] => { results := [.lit (.bool false)], args := [d1, d2] }
  | _ => none }
def RectTellsWrongFalsely : Prop := rectTellsRow.holds Try.pinned (OpenSpec.ofChange rectTellsWrong)

/-- 'imageeditorlaw02.RectPairs': WHATEVER THE INPUT: true; the input reads as it did. -/
def rectPairsSpec : ChangeSpec := { name := "rectPairs", fn := fun _ => fun
  | [d1, d2] => { results := [.lit (.bool true)], args := [d1, d2] }
  | _ => none }
def rectPairsRow : OpenClaim := { program := "ytfpimhkkknfmcaa", sum := "497485bd4d0127a020a6744ba2b8732eeb4dc7d31fa097960eb4ca3ecfbea0e6", func := "imageeditor/imageeditorlaw02.RectPairs", spec := "rectPairs", apart := false }
def RectPairsSaid : Prop := rectPairsRow.holds Try.pinned (OpenSpec.ofChange rectPairsSpec)

/-- ITS FALSE NEIGHBOUR: 'it returns false'. Refute it at one input. -/
def rectPairsWrong : ChangeSpec := { name := "rectPairs", fn := fun _ => fun
  | [d1, d2] => { results := [.lit (.bool false)], args := [d1, d2] }
  | _ => none }
def RectPairsWrongFalsely : Prop := rectPairsRow.holds Try.pinned (OpenSpec.ofChange rectPairsWrong)

/-- 'imageeditorlaw02.RectMoves': WHATEVER THE INPUT: true; the input reads as it did. -/
def rectMovesSpec : ChangeSpec := { name := "rectMoves", fn := fun _ => fun
  | [d1, d2, d3] => { results := [.lit (.bool true)], args := [d1, d2, d3] }
  | _ => none }
def rectMovesRow : OpenClaim := { program := "ytfpimhkkknfmcaa", sum := "497485bd4d0127a020a6744ba2b8732eeb4dc7d31fa097960eb4ca3ecfbea0e6", func := "imageeditor/imageeditorlaw02.RectMoves", spec := "rectMoves", apart := false }
def RectMovesSaid : Prop := rectMovesRow.holds Try.pinned (OpenSpec.ofChange rectMovesSpec)

/-- ITS FALSE NEIGHBOUR: 'it returns false'. Refute it at one input. -/
def rectMovesWrong : ChangeSpec := { name := "rectMoves", fn := fun _ => fun
  | [d1, d2, d3] => { results := [.lit (.bool false)], args := [d1, d2, d3] }
  | _ => none }
def RectMovesWrongFalsely : Prop := rectMovesRow.holds Try.pinned (OpenSpec.ofChange rectMovesWrong)

/-- 'imageeditorlaw02.RectParts': WHATEVER THE INPUT: true; the input reads as it did. -/
def rectPartsSpec : ChangeSpec := { name := "rectParts", fn := fun _ => fun
  | [d1, d2] => { results := [.lit (.bool true)], args := [d1, d2] }
  | _ => none }
def rectPartsRow : OpenClaim := { program := "ytfpimhkkknfmcaa", sum := "497485bd4d0127a020a6744ba2b8732eeb4dc7d31fa097960eb4ca3ecfbea0e6", func := "imageeditor/imageeditorlaw02.RectParts", spec := "rectParts", apart := false }
def RectPartsSaid : Prop := rectPartsRow.holds Try.pinned (OpenSpec.ofChange rectPartsSpec)

/-- ITS FALSE NEIGHBOUR: 'it returns false'. Refute it at one input. -/
def rectPartsWrong : ChangeSpec := { name := "rectParts", fn := fun _ => fun
  | [d1, d2] => { results := [.lit (.bool false)], args := [d1, d2] }
  | _ => none }
def RectPartsWrongFalsely : Prop := rectPartsRow.holds Try.pinned (OpenSpec.ofChange rectPartsWrong)

/-- 'imageeditorlaw02.RectTiles': WHATEVER THE INPUT: true; the input reads as it did. -/
def rectTilesSpec : ChangeSpec := { name := "rectTiles", fn := fun _ => fun
  | [d1, d2] => { results := [.lit (.bool true)], args := [d1, d2] }
  | _ => none }
def rectTilesRow : OpenClaim := { program := "ytfpimhkkknfmcaa", sum := "497485bd4d0127a020a6744ba2b8732eeb4dc7d31fa097960eb4ca3ecfbea0e6", func := "imageeditor/imageeditorlaw02.RectTiles", spec := "rectTiles", apart := false }
def RectTilesSaid : Prop := rectTilesRow.holds Try.pinned (OpenSpec.ofChange rectTilesSpec)

/-- ITS FALSE NEIGHBOUR: 'it returns false'. Refute it at one input. -/
def rectTilesWrong : ChangeSpec := { name := "rectTiles", fn := fun _ => fun
  | [d1, d2] => { results := [.lit (.bool false)], args := [d1, d2] }
  | _ => none }
def RectTilesWrongFalsely : Prop := rectTilesRow.holds Try.pinned (OpenSpec.ofChange rectTilesWrong)

/-- 'imageeditorlaw02.RectLattice': WHATEVER THE INPUT: true; the input reads as it did. -/
def rectLatticeSpec : ChangeSpec := { name := "rectLattice", fn := fun _ => fun
  | [d1, d2, d3] => { results := [.lit (.bool true)], args := [d1, d2, d3] }
  | _ => none }
def rectLatticeRow : OpenClaim := { program := "ytfpimhkkknfmcaa", sum := "497485bd4d0127a020a6744ba2b8732eeb4dc7d31fa097960eb4ca3ecfbea0e6", func := "imageeditor/imageeditorlaw02.RectLattice", spec := "rectLattice", apart := false }
def RectLatticeSaid : Prop := rectLatticeRow.holds Try.pinned (OpenSpec.ofChange rectLatticeSpec)

/-- ITS FALSE NEIGHBOUR: 'it returns false'. Refute it at one input. -/
def rectLatticeWrong : ChangeSpec := { name := "rectLattice", fn := fun _ => fun
  | [d1, d2, d3] => { results := [.lit (.bool false)], args := [d1, d2, d3] }
  | _ => none }
def RectLatticeWrongFalsely : Prop := rectLatticeRow.holds Try.pinned (OpenSpec.ofChange rectLatticeWrong)

/-- 'imageeditorlaw02.RectPieces': WHATEVER THE INPUT: true; the input reads as it did. -/
def rectPiecesSpec : ChangeSpec := { name := "rectPieces", fn := fun _ => fun
  | [d1, d2] => { results := [.lit (.bool true)], args := [d1, d2] }
  | _ => none }
def rectPiecesRow : OpenClaim := { program := "ytfpimhkkknfmcaa", sum := "497485bd4d0127a020a6744ba2b8732eeb4dc7d31fa097960eb4ca3ecfbea0e6", func := "imageeditor/imageeditorlaw02.RectPieces", spec := "rectPieces", apart := false }
def RectPiecesSaid : Prop := rectPiecesRow.holds Try.pinned (OpenSpec.ofChange rectPiecesSpec)

/-- ITS FALSE NEIGHBOUR: 'it returns false'. Refute it at one input. -/
def rectPiecesWrong : ChangeSpec := { name := "rectPieces", fn := fun _ => fun
  | [d1, d2] => { results := [.lit (.bool false)], args := [d1, d2] }
  | _ => none }
def RectPiecesWrongFalsely : Prop := rectPiecesRow.holds Try.pinned (OpenSpec.ofChange rectPiecesWrong)

/-- 'imageeditorlaw02.RectCovers': WHATEVER THE INPUT: true; the input reads as it did. -/
def rectCoversSpec : ChangeSpec := { name := "rectCovers", fn := fun _ => fun
  | [d] => { results := [.lit (.bool true)], args := [d] }
  | _ => none }
def rectCoversRow : OpenClaim := { program := "ytfpimhkkknfmcaa", sum := "497485bd4d0127a020a6744ba2b8732eeb4dc7d31fa097960eb4ca3ecfbea0e6", func := "imageeditor/imageeditorlaw02.RectCovers", spec := "rectCovers", apart := false }
def RectCoversSaid : Prop := rectCoversRow.holds Try.pinned (OpenSpec.ofChange rectCoversSpec)

/-- ITS FALSE NEIGHBOUR: 'it returns false'. Refute it at one input. -/
def rectCoversWrong : ChangeSpec := { name := "rectCovers", fn := fun _ => fun
  | [d] => { results := [.lit (.bool false)], args := [d] }
  | _ => none }
def RectCoversWrongFalsely : Prop := rectCoversRow.holds Try.pinned (OpenSpec.ofChange rectCoversWrong)

/-- 'imageeditorlaw02.RectBack': WHATEVER THE INPUT: true; the input reads as it did. -/
def rectBackSpec : ChangeSpec := { name := "rectBack", fn := fun _ => fun
  | [d1, d2, d3] => { results := [.lit (.bool true)], args := [d1, d2, d3] }
  | _ => none }
def rectBackRow : OpenClaim := { program := "ytfpimhkkknfmcaa", sum := "497485bd4d0127a020a6744ba2b8732eeb4dc7d31fa097960eb4ca3ecfbea0e6", func := "imageeditor/imageeditorlaw02.RectBack", spec := "rectBack", apart := false }
def RectBackSaid : Prop := rectBackRow.holds Try.pinned (OpenSpec.ofChange rectBackSpec)

/-- ITS FALSE NEIGHBOUR: 'it returns false'. Refute it at one input. -/
def rectBackWrong : ChangeSpec := { name := "rectBack", fn := fun _ => fun
  | [d1, d2, d3] => { results := [.lit (.bool false)], args := [d1, d2, d3] }
  | _ => none }
def RectBackWrongFalsely : Prop := rectBackRow.holds Try.pinned (OpenSpec.ofChange rectBackWrong)

/- THE SECOND FORM. 'bulk': how many values and letters a reading holds, each counted each time it is reached (what is shared counts as often as it is met; a slice's spare places count too). A statement '..UptoSaid' is the law's where the arguments, and the package variables that the reading takes, are together of bulk at most 1048576: NARROWER than '..Said'. Prove '..Said' where nothing that the law and all that it calls make is longer than what came in: it says more and counts as full. Else prove '..UptoSaid'. A law counts once. -/
mutual
def uptoBulk {H : Type} : DataW H → Nat
  | .lit (.string bytes) => bytes.length + 1
  | .lit _ => 1
  | .nil => 1
  | .ptr d => uptoBulk d + 1
  | .slice elems spare => uptoBulkAll elems + uptoBulkAll spare + 1
  | .agg parts => uptoBulkAll parts + 1
  | .iface _ d => uptoBulk d + 1
  | .map entries => uptoBulkEntries entries + 1
  | .held _ => 1
def uptoBulkAll {H : Type} : List (DataW H) → Nat
  | [] => 0
  | d :: r => uptoBulk d + uptoBulkAll r
def uptoBulkEntries {H : Type} : List (Lit × DataW H) → Nat
  | [] => 0
  | x :: r => uptoBulkEntry x + uptoBulkEntries r
def uptoBulkEntry {H : Type} : Lit × DataW H → Nat
  | (.string bytes, d) => bytes.length + uptoBulk d + 1
  | (_, d) => uptoBulk d + 1
 end
def uptoSmall : (H : Type) → List (DataW H) → Bool := fun _ ds => decide (uptoBulkAll ds ≤ 1048576)
def OpenSpec.upto (s : _root_.Go.ChangeSpec) : _root_.Go.OpenSpec := { _root_.Go.OpenSpec.ofChange s with cond := some uptoSmall }

/-- 'imageeditorlaw02.RectTells', WHERE WHAT IT READS IS OF BULK AT MOST 1048576: true; the input reads as it did. -/
def rectTellsUptoRow : OpenClaim := { program := "ytfpimhkkknfmcaa", sum := "497485bd4d0127a020a6744ba2b8732eeb4dc7d31fa097960eb4ca3ecfbea0e6", func := "imageeditor/imageeditorlaw02.RectTells", spec := "rectTells", apart := false, narrowed := true }
def RectTellsUptoSaid : Prop := rectTellsUptoRow.holds Try.pinned (OpenSpec.upto rectTellsSpec)

/-- 'imageeditorlaw02.RectPairs', WHERE WHAT IT READS IS OF BULK AT MOST 1048576: true; the input reads as it did. -/
def rectPairsUptoRow : OpenClaim := { program := "ytfpimhkkknfmcaa", sum := "497485bd4d0127a020a6744ba2b8732eeb4dc7d31fa097960eb4ca3ecfbea0e6", func := "imageeditor/imageeditorlaw02.RectPairs", spec := "rectPairs", apart := false, narrowed := true }
def RectPairsUptoSaid : Prop := rectPairsUptoRow.holds Try.pinned (OpenSpec.upto rectPairsSpec)

/-- 'imageeditorlaw02.RectMoves', WHERE WHAT IT READS IS OF BULK AT MOST 1048576: true; the input reads as it did. -/
def rectMovesUptoRow : OpenClaim := { program := "ytfpimhkkknfmcaa", sum := "497485bd4d0127a020a6744ba2b8732eeb4dc7d31fa097960eb4ca3ecfbea0e6", func := "imageeditor/imageeditorlaw02.RectMoves", spec := "rectMoves", apart := false, narrowed := true }
def RectMovesUptoSaid : Prop := rectMovesUptoRow.holds Try.pinned (OpenSpec.upto rectMovesSpec)

/-- 'imageeditorlaw02.RectParts', WHERE WHAT IT READS IS OF BULK AT MOST 1048576: true; the input reads as it did. -/
def rectPartsUptoRow : OpenClaim := { program := "ytfpimhkkknfmcaa", sum := "497485bd4d0127a020a6744ba2b8732eeb4dc7d31fa097960eb4ca3ecfbea0e6", func := "imageeditor/imageeditorlaw02.RectParts", spec := "rectParts", apart := false, narrowed := true }
def RectPartsUptoSaid : Prop := rectPartsUptoRow.holds Try.pinned (OpenSpec.upto rectPartsSpec)

/-- 'imageeditorlaw02.RectTiles', WHERE WHAT IT READS IS OF BULK AT MOST 1048576: true; the input reads as it did. -/
def rectTilesUptoRow : OpenClaim := { program := "ytfpimhkkknfmcaa", sum := "497485bd4d0127a020a6744ba2b8732eeb4dc7d31fa097960eb4ca3ecfbea0e6", func := "imageeditor/imageeditorlaw02.RectTiles", spec := "rectTiles", apart := false, narrowed := true }
def RectTilesUptoSaid : Prop := rectTilesUptoRow.holds Try.pinned (OpenSpec.upto rectTilesSpec)

/-- 'imageeditorlaw02.RectLattice', WHERE WHAT IT READS IS OF BULK AT MOST 1048576: true; the input reads as it did. -/
def rectLatticeUptoRow : OpenClaim := { program := "ytfpimhkkknfmcaa", sum := "497485bd4d0127a020a6744ba2b8732eeb4dc7d31fa097960eb4ca3ecfbea0e6", func := "imageeditor/imageeditorlaw02.RectLattice", spec := "rectLattice", apart := false, narrowed := true }
def RectLatticeUptoSaid : Prop := rectLatticeUptoRow.holds Try.pinned (OpenSpec.upto rectLatticeSpec)

/-- 'imageeditorlaw02.RectPieces', WHERE WHAT IT READS IS OF BULK AT MOST 1048576: true; the input reads as it did. -/
def rectPiecesUptoRow : OpenClaim := { program := "ytfpimhkkknfmcaa", sum := "497485bd4d0127a020a6744ba2b8732eeb4dc7d31fa097960eb4ca3ecfbea0e6", func := "imageeditor/imageeditorlaw02.RectPieces", spec := "rectPieces", apart := false, narrowed := true }
def RectPiecesUptoSaid : Prop := rectPiecesUptoRow.holds Try.pinned (OpenSpec.upto rectPiecesSpec)

/-- 'imageeditorlaw02.RectCovers', WHERE WHAT IT READS IS OF BULK AT MOST 1048576: true; the input reads as it did. -/
def rectCoversUptoRow : OpenClaim := { program := "ytfpimhkkknfmcaa", sum := "497485bd4d0127a020a6744ba2b8732eeb4dc7d31fa097960eb4ca3ecfbea0e6", func := "imageeditor/imageeditorlaw02.RectCovers", spec := "rectCovers", apart := false, narrowed := true }
def RectCoversUptoSaid : Prop := rectCoversUptoRow.holds Try.pinned (OpenSpec.upto rectCoversSpec)

/-- 'imageeditorlaw02.RectBack', WHERE WHAT IT READS IS OF BULK AT MOST 1048576: true; the input reads as it did. -/
def rectBackUptoRow : OpenClaim := { program := "ytfpimhkkknfmcaa", sum := "497485bd4d0127a020a6744ba2b8732eeb4dc7d31fa097960eb4ca3ecfbea0e6", func := "imageeditor/imageeditorlaw02.RectBack", spec := "rectBack", apart := false, narrowed := true }
def RectBackUptoSaid : Prop := rectBackUptoRow.holds Try.pinned (OpenSpec.upto rectBackSpec)

end Rows
end Go.Proofs.Ytfpimhkkknfmcaa
