/-
  DERIVED. GIVEN WITH THE SEED: THE CARDS: each row of YtgkflbibpkkegaaGreatDoorRows.lean that lists a variable, with what it lists TIED to the program's text (the seventh form; the later family's looks); each row that meets fmt, with fmt's text TOLD by the authors' own Lean function (tested against real Go, not proved from fmt's source: count such statements apart). THE CARD IS WHAT COUNTS. Prove the row's statement (the work); the ties are given (YtgkflbibpkkegaaGreatDoorTie.lean); close each card by the builder's one call (the guide's Derived/Test/ToyasCard.lean, 'card_holds'). Laid BY PROGRAM, IN A SANDBOX (cutbox-door.mjs). By AI agents, Wed Nov 11 2026. No macro, syntax, notation, axiom, sorry.
-/
import Derived.Test.YtgkflbibpkkegaaGreatDoorRows
import GoSem.ClaimSeven
namespace Go.Proofs.YtgkflbibpkkegaaGreatDoor
namespace Rows

/-- THE TIED CARD OF 'imageeditorlaw35.PyramidSizes'. -/
def pyramidSizesCard : Claim7 := { stood := { row := pyramidSizesRow, standIns := [], harness := (true, "499a7057c5bf1d4e7d090378e45d74c45bef84144a61443ff918e4be741455cf"), looks := false }, kinds := [], alts := [], laidByText := true, laidKinds := [.data, .data, .data, .listed, .data, .pinned], laidTests := true, laidLooks := .later }
def PyramidSizesCardSaid : Prop := Claim7.holds Tryz.pinned (.plain (OpenSpec.ofChange pyramidSizesSpec)) pyramidSizesCard

/-- THE TIED CARD OF 'imageeditorlaw35.PyramidLevels'. -/
def pyramidLevelsCard : Claim7 := { stood := { row := pyramidLevelsRow, standIns := [], harness := (true, "499a7057c5bf1d4e7d090378e45d74c45bef84144a61443ff918e4be741455cf"), looks := false }, kinds := [], alts := [], laidByText := true, laidKinds := [.data, .data, .data, .listed, .data, .pinned], laidTests := true, laidLooks := .later }
def PyramidLevelsCardSaid : Prop := Claim7.holds Tryz.pinned (.plain (OpenSpec.ofChange pyramidLevelsSpec)) pyramidLevelsCard

/-- THE TIED CARD OF 'imageeditorlaw35.PyramidSteps'. -/
def pyramidStepsCard : Claim7 := { stood := { row := pyramidStepsRow, standIns := [], harness := (true, "499a7057c5bf1d4e7d090378e45d74c45bef84144a61443ff918e4be741455cf"), looks := false }, kinds := [], alts := [], laidByText := true, laidKinds := [.data, .data, .data, .listed, .data, .pinned], laidTests := true, laidLooks := .later }
def PyramidStepsCardSaid : Prop := Claim7.holds Tryz.pinned (.plain (OpenSpec.ofChange pyramidStepsSpec)) pyramidStepsCard

/-- THE TIED CARD OF 'imageeditorlaw35.PyramidParts'. -/
def pyramidPartsCard : Claim7 := { stood := { row := pyramidPartsRow, standIns := [], harness := (true, "499a7057c5bf1d4e7d090378e45d74c45bef84144a61443ff918e4be741455cf"), looks := false }, kinds := [], alts := [], laidByText := true, laidKinds := [.data, .data, .data, .listed, .data, .pinned], laidTests := true, laidLooks := .later }
def PyramidPartsCardSaid : Prop := Claim7.holds Tryz.pinned (.plain (OpenSpec.ofChange pyramidPartsSpec)) pyramidPartsCard

/-- THE TIED CARD OF 'imageeditorlaw35.PyramidMeans'. -/
def pyramidMeansCard : Claim7 := { stood := { row := pyramidMeansRow, standIns := [], harness := (true, "499a7057c5bf1d4e7d090378e45d74c45bef84144a61443ff918e4be741455cf"), looks := false }, kinds := [], alts := [], laidByText := true, laidKinds := [.data, .data, .data, .listed, .data, .pinned], laidTests := true, laidLooks := .later }
def PyramidMeansCardSaid : Prop := Claim7.holds Tryz.pinned (.plain (OpenSpec.ofChange pyramidMeansSpec)) pyramidMeansCard

/-- THE SECOND FORM's CARD OF 'imageeditorlaw35.PyramidSizes'. -/
def pyramidSizesUptoCard : Claim7 := { stood := { row := pyramidSizesUptoRow, standIns := [], harness := (true, "499a7057c5bf1d4e7d090378e45d74c45bef84144a61443ff918e4be741455cf"), looks := false }, kinds := [], alts := [], laidByText := true, laidKinds := [.data, .data, .data, .listed, .data, .pinned], laidTests := true, laidLooks := .later }
def PyramidSizesUptoCardSaid : Prop := Claim7.holds Tryz.pinned (.plain (OpenSpec.upto pyramidSizesSpec)) pyramidSizesUptoCard

/-- THE SECOND FORM's CARD OF 'imageeditorlaw35.PyramidLevels'. -/
def pyramidLevelsUptoCard : Claim7 := { stood := { row := pyramidLevelsUptoRow, standIns := [], harness := (true, "499a7057c5bf1d4e7d090378e45d74c45bef84144a61443ff918e4be741455cf"), looks := false }, kinds := [], alts := [], laidByText := true, laidKinds := [.data, .data, .data, .listed, .data, .pinned], laidTests := true, laidLooks := .later }
def PyramidLevelsUptoCardSaid : Prop := Claim7.holds Tryz.pinned (.plain (OpenSpec.upto pyramidLevelsSpec)) pyramidLevelsUptoCard

/-- THE SECOND FORM's CARD OF 'imageeditorlaw35.PyramidSteps'. -/
def pyramidStepsUptoCard : Claim7 := { stood := { row := pyramidStepsUptoRow, standIns := [], harness := (true, "499a7057c5bf1d4e7d090378e45d74c45bef84144a61443ff918e4be741455cf"), looks := false }, kinds := [], alts := [], laidByText := true, laidKinds := [.data, .data, .data, .listed, .data, .pinned], laidTests := true, laidLooks := .later }
def PyramidStepsUptoCardSaid : Prop := Claim7.holds Tryz.pinned (.plain (OpenSpec.upto pyramidStepsSpec)) pyramidStepsUptoCard

/-- THE SECOND FORM's CARD OF 'imageeditorlaw35.PyramidParts'. -/
def pyramidPartsUptoCard : Claim7 := { stood := { row := pyramidPartsUptoRow, standIns := [], harness := (true, "499a7057c5bf1d4e7d090378e45d74c45bef84144a61443ff918e4be741455cf"), looks := false }, kinds := [], alts := [], laidByText := true, laidKinds := [.data, .data, .data, .listed, .data, .pinned], laidTests := true, laidLooks := .later }
def PyramidPartsUptoCardSaid : Prop := Claim7.holds Tryz.pinned (.plain (OpenSpec.upto pyramidPartsSpec)) pyramidPartsUptoCard

/-- THE SECOND FORM's CARD OF 'imageeditorlaw35.PyramidMeans'. -/
def pyramidMeansUptoCard : Claim7 := { stood := { row := pyramidMeansUptoRow, standIns := [], harness := (true, "499a7057c5bf1d4e7d090378e45d74c45bef84144a61443ff918e4be741455cf"), looks := false }, kinds := [], alts := [], laidByText := true, laidKinds := [.data, .data, .data, .listed, .data, .pinned], laidTests := true, laidLooks := .later }
def PyramidMeansUptoCardSaid : Prop := Claim7.holds Tryz.pinned (.plain (OpenSpec.upto pyramidMeansSpec)) pyramidMeansUptoCard
end Rows
end Go.Proofs.YtgkflbibpkkegaaGreatDoor
