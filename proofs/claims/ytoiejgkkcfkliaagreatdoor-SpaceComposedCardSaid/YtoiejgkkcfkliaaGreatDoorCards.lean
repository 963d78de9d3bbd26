/-
  DERIVED. GIVEN WITH THE SEED: THE CARDS: each row of YtoiejgkkcfkliaaGreatDoorRows.lean that lists a variable, with what it lists TIED to the program's text (the seventh form; the later family's looks); each row that meets fmt, with fmt's text TOLD by the authors' own Lean function (tested against real Go, not proved from fmt's source: count such statements apart). THE CARD IS WHAT COUNTS. Prove the row's statement (the work); the ties are given (YtoiejgkkcfkliaaGreatDoorTie.lean); close each card by the builder's one call (the guide's Derived/Test/ToyasCard.lean, 'card_holds'). Laid BY PROGRAM, IN A SANDBOX (cutbox-door.mjs). By AI agents, Wed Nov 11 2026. No macro, syntax, notation, axiom, sorry.
-/
import Derived.Test.YtoiejgkkcfkliaaGreatDoorRows
import GoSem.ClaimSeven
namespace Go.Proofs.YtoiejgkkcfkliaaGreatDoor
namespace Rows

/-- THE TIED CARD OF 'trunnellaw01.SpaceTexts'. -/
def spaceTextsCard : Claim7 := { stood := { row := spaceTextsRow, standIns := [], harness := (true, "81da6fbd9c49cf521be0089a49d14cb5087461cb03ea0b319b989e6d81769743"), looks := true }, kinds := [], alts := [], laidByText := true, laidKinds := [.data, .data, .data, .sentinel, .sentinel], laidTests := true, laidLooks := .later }
def SpaceTextsCardSaid : Prop := Claim7.holds Tryz.pinned (.plain (OpenSpec.ofChange spaceTextsSpec)) spaceTextsCard

/-- THE TIED CARD OF 'trunnellaw01.SpaceMovedHalves'. -/
def spaceMovedHalvesCard : Claim7 := { stood := { row := spaceMovedHalvesRow, standIns := [], harness := (true, "81da6fbd9c49cf521be0089a49d14cb5087461cb03ea0b319b989e6d81769743"), looks := true }, kinds := [], alts := [], laidByText := true, laidKinds := [.data, .data, .data, .sentinel, .sentinel], laidTests := true, laidLooks := .later }
def SpaceMovedHalvesCardSaid : Prop := Claim7.holds Tryz.pinned (.plain (OpenSpec.ofChange spaceMovedHalvesSpec)) spaceMovedHalvesCard

/-- THE TIED CARD OF 'trunnellaw01.SpaceHalves'. -/
def spaceHalvesCard : Claim7 := { stood := { row := spaceHalvesRow, standIns := [], harness := (true, "81da6fbd9c49cf521be0089a49d14cb5087461cb03ea0b319b989e6d81769743"), looks := true }, kinds := [], alts := [], laidByText := true, laidKinds := [.data, .data, .data, .sentinel, .sentinel], laidTests := true, laidLooks := .later }
def SpaceHalvesCardSaid : Prop := Claim7.holds Tryz.pinned (.plain (OpenSpec.ofChange spaceHalvesSpec)) spaceHalvesCard

/-- THE TIED CARD OF 'trunnellaw01.SpaceFeet'. -/
def spaceFeetCard : Claim7 := { stood := { row := spaceFeetRow, standIns := [], harness := (true, "81da6fbd9c49cf521be0089a49d14cb5087461cb03ea0b319b989e6d81769743"), looks := true }, kinds := [], alts := [], laidByText := true, laidKinds := [.data, .data, .data, .sentinel, .sentinel], laidTests := true, laidLooks := .later }
def SpaceFeetCardSaid : Prop := Claim7.holds Tryz.pinned (.plain (OpenSpec.ofChange spaceFeetSpec)) spaceFeetCard

/-- THE TIED CARD OF 'trunnellaw01.SpaceNearest'. -/
def spaceNearestCard : Claim7 := { stood := { row := spaceNearestRow, standIns := [], harness := (true, "81da6fbd9c49cf521be0089a49d14cb5087461cb03ea0b319b989e6d81769743"), looks := true }, kinds := [], alts := [], laidByText := true, laidKinds := [.data, .data, .data, .sentinel, .sentinel], laidTests := true, laidLooks := .later }
def SpaceNearestCardSaid : Prop := Claim7.holds Tryz.pinned (.plain (OpenSpec.ofChange spaceNearestSpec)) spaceNearestCard

/-- THE TIED CARD OF 'trunnellaw01.SpaceComposed'. -/
def spaceComposedCard : Claim7 := { stood := { row := spaceComposedRow, standIns := [], harness := (true, "81da6fbd9c49cf521be0089a49d14cb5087461cb03ea0b319b989e6d81769743"), looks := true }, kinds := [], alts := [], laidByText := true, laidKinds := [.data, .data, .data, .sentinel, .sentinel], laidTests := true, laidLooks := .later }
def SpaceComposedCardSaid : Prop := Claim7.holds Tryz.pinned (.plain (OpenSpec.ofChange spaceComposedSpec)) spaceComposedCard

/-- THE TIED CARD OF 'trunnellaw01.SpaceTurns'. -/
def spaceTurnsCard : Claim7 := { stood := { row := spaceTurnsRow, standIns := [], harness := (true, "81da6fbd9c49cf521be0089a49d14cb5087461cb03ea0b319b989e6d81769743"), looks := true }, kinds := [], alts := [], laidByText := true, laidKinds := [.data, .data, .data, .sentinel, .sentinel], laidTests := true, laidLooks := .later }
def SpaceTurnsCardSaid : Prop := Claim7.holds Tryz.pinned (.plain (OpenSpec.ofChange spaceTurnsSpec)) spaceTurnsCard

/-- THE TIED CARD OF 'trunnellaw01.SpaceCrossings'. -/
def spaceCrossingsCard : Claim7 := { stood := { row := spaceCrossingsRow, standIns := [], harness := (true, "81da6fbd9c49cf521be0089a49d14cb5087461cb03ea0b319b989e6d81769743"), looks := true }, kinds := [], alts := [], laidByText := true, laidKinds := [.data, .data, .data, .sentinel, .sentinel], laidTests := true, laidLooks := .later }
def SpaceCrossingsCardSaid : Prop := Claim7.holds Tryz.pinned (.plain (OpenSpec.ofChange spaceCrossingsSpec)) spaceCrossingsCard

/-- THE TIED CARD OF 'trunnellaw01.SpaceCoordinates'. -/
def spaceCoordinatesCard : Claim7 := { stood := { row := spaceCoordinatesRow, standIns := [], harness := (true, "81da6fbd9c49cf521be0089a49d14cb5087461cb03ea0b319b989e6d81769743"), looks := true }, kinds := [], alts := [], laidByText := true, laidKinds := [.data, .data, .data, .sentinel, .sentinel], laidTests := true, laidLooks := .later }
def SpaceCoordinatesCardSaid : Prop := Claim7.holds Tryz.pinned (.plain (OpenSpec.ofChange spaceCoordinatesSpec)) spaceCoordinatesCard

/-- THE TIED CARD OF 'trunnellaw01.SpaceLagrange'. -/
def spaceLagrangeCard : Claim7 := { stood := { row := spaceLagrangeRow, standIns := [], harness := (true, "81da6fbd9c49cf521be0089a49d14cb5087461cb03ea0b319b989e6d81769743"), looks := true }, kinds := [], alts := [], laidByText := true, laidKinds := [.data, .data, .data, .sentinel, .sentinel], laidTests := true, laidLooks := .later }
def SpaceLagrangeCardSaid : Prop := Claim7.holds Tryz.pinned (.plain (OpenSpec.ofChange spaceLagrangeSpec)) spaceLagrangeCard

/-- THE TIED CARD OF 'trunnellaw01.SpaceFrames'. -/
def spaceFramesCard : Claim7 := { stood := { row := spaceFramesRow, standIns := [], harness := (true, "81da6fbd9c49cf521be0089a49d14cb5087461cb03ea0b319b989e6d81769743"), looks := true }, kinds := [], alts := [], laidByText := true, laidKinds := [.data, .data, .data, .sentinel, .sentinel], laidTests := true, laidLooks := .later }
def SpaceFramesCardSaid : Prop := Claim7.holds Tryz.pinned (.plain (OpenSpec.ofChange spaceFramesSpec)) spaceFramesCard

/-- THE TIED CARD OF 'trunnellaw01.SpacePlanes'. -/
def spacePlanesCard : Claim7 := { stood := { row := spacePlanesRow, standIns := [], harness := (true, "81da6fbd9c49cf521be0089a49d14cb5087461cb03ea0b319b989e6d81769743"), looks := true }, kinds := [], alts := [], laidByText := true, laidKinds := [.data, .data, .data, .sentinel, .sentinel], laidTests := true, laidLooks := .later }
def SpacePlanesCardSaid : Prop := Claim7.holds Tryz.pinned (.plain (OpenSpec.ofChange spacePlanesSpec)) spacePlanesCard

/-- THE TIED CARD OF 'trunnellaw01.SpaceNumbers'. -/
def spaceNumbersCard : Claim7 := { stood := { row := spaceNumbersRow, standIns := [], harness := (true, "81da6fbd9c49cf521be0089a49d14cb5087461cb03ea0b319b989e6d81769743"), looks := true }, kinds := [], alts := [], laidByText := true, laidKinds := [.data, .data, .data, .sentinel, .sentinel], laidTests := true, laidLooks := .later }
def SpaceNumbersCardSaid : Prop := Claim7.holds Tryz.pinned (.plain (OpenSpec.ofChange spaceNumbersSpec)) spaceNumbersCard

/-- THE TIED CARD OF 'trunnellaw01.SpaceVectors'. -/
def spaceVectorsCard : Claim7 := { stood := { row := spaceVectorsRow, standIns := [], harness := (true, "81da6fbd9c49cf521be0089a49d14cb5087461cb03ea0b319b989e6d81769743"), looks := true }, kinds := [], alts := [], laidByText := true, laidKinds := [.data, .data, .data, .sentinel, .sentinel], laidTests := true, laidLooks := .later }
def SpaceVectorsCardSaid : Prop := Claim7.holds Tryz.pinned (.plain (OpenSpec.ofChange spaceVectorsSpec)) spaceVectorsCard

/-- THE SECOND FORM's CARD OF 'trunnellaw01.SpaceTexts'. -/
def spaceTextsUptoCard : Claim7 := { stood := { row := spaceTextsUptoRow, standIns := [], harness := (true, "81da6fbd9c49cf521be0089a49d14cb5087461cb03ea0b319b989e6d81769743"), looks := true }, kinds := [], alts := [], laidByText := true, laidKinds := [.data, .data, .data, .sentinel, .sentinel], laidTests := true, laidLooks := .later }
def SpaceTextsUptoCardSaid : Prop := Claim7.holds Tryz.pinned (.plain (OpenSpec.upto spaceTextsSpec)) spaceTextsUptoCard

/-- THE SECOND FORM's CARD OF 'trunnellaw01.SpaceMovedHalves'. -/
def spaceMovedHalvesUptoCard : Claim7 := { stood := { row := spaceMovedHalvesUptoRow, standIns := [], harness := (true, "81da6fbd9c49cf521be0089a49d14cb5087461cb03ea0b319b989e6d81769743"), looks := true }, kinds := [], alts := [], laidByText := true, laidKinds := [.data, .data, .data, .sentinel, .sentinel], laidTests := true, laidLooks := .later }
def SpaceMovedHalvesUptoCardSaid : Prop := Claim7.holds Tryz.pinned (.plain (OpenSpec.upto spaceMovedHalvesSpec)) spaceMovedHalvesUptoCard

/-- THE SECOND FORM's CARD OF 'trunnellaw01.SpaceHalves'. -/
def spaceHalvesUptoCard : Claim7 := { stood := { row := spaceHalvesUptoRow, standIns := [], harness := (true, "81da6fbd9c49cf521be0089a49d14cb5087461cb03ea0b319b989e6d81769743"), looks := true }, kinds := [], alts := [], laidByText := true, laidKinds := [.data, .data, .data, .sentinel, .sentinel], laidTests := true, laidLooks := .later }
def SpaceHalvesUptoCardSaid : Prop := Claim7.holds Tryz.pinned (.plain (OpenSpec.upto spaceHalvesSpec)) spaceHalvesUptoCard

/-- THE SECOND FORM's CARD OF 'trunnellaw01.SpaceFeet'. -/
def spaceFeetUptoCard : Claim7 := { stood := { row := spaceFeetUptoRow, standIns := [], harness := (true, "81da6fbd9c49cf521be0089a49d14cb5087461cb03ea0b319b989e6d81769743"), looks := true }, kinds := [], alts := [], laidByText := true, laidKinds := [.data, .data, .data, .sentinel, .sentinel], laidTests := true, laidLooks := .later }
def SpaceFeetUptoCardSaid : Prop := Claim7.holds Tryz.pinned (.plain (OpenSpec.upto spaceFeetSpec)) spaceFeetUptoCard

/-- THE SECOND FORM's CARD OF 'trunnellaw01.SpaceNearest'. -/
def spaceNearestUptoCard : Claim7 := { stood := { row := spaceNearestUptoRow, standIns := [], harness := (true, "81da6fbd9c49cf521be0089a49d14cb5087461cb03ea0b319b989e6d81769743"), looks := true }, kinds := [], alts := [], laidByText := true, laidKinds := [.data, .data, .data, .sentinel, .sentinel], laidTests := true, laidLooks := .later }
def SpaceNearestUptoCardSaid : Prop := Claim7.holds Tryz.pinned (.plain (OpenSpec.upto spaceNearestSpec)) spaceNearestUptoCard

/-- THE SECOND FORM's CARD OF 'trunnellaw01.SpaceComposed'. -/
def spaceComposedUptoCard : Claim7 := { stood := { row := spaceComposedUptoRow, standIns := [], harness := (true, "81da6fbd9c49cf521be0089a49d14cb5087461cb03ea0b319b989e6d81769743"), looks := true }, kinds := [], alts := [], laidByText := true, laidKinds := [.data, .data, .data, .sentinel, .sentinel], laidTests := true, laidLooks := .later }
def SpaceComposedUptoCardSaid : Prop := Claim7.holds Tryz.pinned (.plain (OpenSpec.upto spaceComposedSpec)) spaceComposedUptoCard

/-- THE SECOND FORM's CARD OF 'trunnellaw01.SpaceTurns'. -/
def spaceTurnsUptoCard : Claim7 := { stood := { row := spaceTurnsUptoRow, standIns := [], harness := (true, "81da6fbd9c49cf521be0089a49d14cb5087461cb03ea0b319b989e6d81769743"), looks := true }, kinds := [], alts := [], laidByText := true, laidKinds := [.data, .data, .data, .sentinel, .sentinel], laidTests := true, laidLooks := .later }
def SpaceTurnsUptoCardSaid : Prop := Claim7.holds Tryz.pinned (.plain (OpenSpec.upto spaceTurnsSpec)) spaceTurnsUptoCard

/-- THE SECOND FORM's CARD OF 'trunnellaw01.SpaceCrossings'. -/
def spaceCrossingsUptoCard : Claim7 := { stood := { row := spaceCrossingsUptoRow, standIns := [], harness := (true, "81da6fbd9c49cf521be0089a49d14cb5087461cb03ea0b319b989e6d81769743"), looks := true }, kinds := [], alts := [], laidByText := true, laidKinds := [.data, .data, .data, .sentinel, .sentinel], laidTests := true, laidLooks := .later }
def SpaceCrossingsUptoCardSaid : Prop := Claim7.holds Tryz.pinned (.plain (OpenSpec.upto spaceCrossingsSpec)) spaceCrossingsUptoCard

/-- THE SECOND FORM's CARD OF 'trunnellaw01.SpaceCoordinates'. -/
def spaceCoordinatesUptoCard : Claim7 := { stood := { row := spaceCoordinatesUptoRow, standIns := [], harness := (true, "81da6fbd9c49cf521be0089a49d14cb5087461cb03ea0b319b989e6d81769743"), looks := true }, kinds := [], alts := [], laidByText := true, laidKinds := [.data, .data, .data, .sentinel, .sentinel], laidTests := true, laidLooks := .later }
def SpaceCoordinatesUptoCardSaid : Prop := Claim7.holds Tryz.pinned (.plain (OpenSpec.upto spaceCoordinatesSpec)) spaceCoordinatesUptoCard

/-- THE SECOND FORM's CARD OF 'trunnellaw01.SpaceLagrange'. -/
def spaceLagrangeUptoCard : Claim7 := { stood := { row := spaceLagrangeUptoRow, standIns := [], harness := (true, "81da6fbd9c49cf521be0089a49d14cb5087461cb03ea0b319b989e6d81769743"), looks := true }, kinds := [], alts := [], laidByText := true, laidKinds := [.data, .data, .data, .sentinel, .sentinel], laidTests := true, laidLooks := .later }
def SpaceLagrangeUptoCardSaid : Prop := Claim7.holds Tryz.pinned (.plain (OpenSpec.upto spaceLagrangeSpec)) spaceLagrangeUptoCard

/-- THE SECOND FORM's CARD OF 'trunnellaw01.SpaceFrames'. -/
def spaceFramesUptoCard : Claim7 := { stood := { row := spaceFramesUptoRow, standIns := [], harness := (true, "81da6fbd9c49cf521be0089a49d14cb5087461cb03ea0b319b989e6d81769743"), looks := true }, kinds := [], alts := [], laidByText := true, laidKinds := [.data, .data, .data, .sentinel, .sentinel], laidTests := true, laidLooks := .later }
def SpaceFramesUptoCardSaid : Prop := Claim7.holds Tryz.pinned (.plain (OpenSpec.upto spaceFramesSpec)) spaceFramesUptoCard

/-- THE SECOND FORM's CARD OF 'trunnellaw01.SpacePlanes'. -/
def spacePlanesUptoCard : Claim7 := { stood := { row := spacePlanesUptoRow, standIns := [], harness := (true, "81da6fbd9c49cf521be0089a49d14cb5087461cb03ea0b319b989e6d81769743"), looks := true }, kinds := [], alts := [], laidByText := true, laidKinds := [.data, .data, .data, .sentinel, .sentinel], laidTests := true, laidLooks := .later }
def SpacePlanesUptoCardSaid : Prop := Claim7.holds Tryz.pinned (.plain (OpenSpec.upto spacePlanesSpec)) spacePlanesUptoCard

/-- THE SECOND FORM's CARD OF 'trunnellaw01.SpaceNumbers'. -/
def spaceNumbersUptoCard : Claim7 := { stood := { row := spaceNumbersUptoRow, standIns := [], harness := (true, "81da6fbd9c49cf521be0089a49d14cb5087461cb03ea0b319b989e6d81769743"), looks := true }, kinds := [], alts := [], laidByText := true, laidKinds := [.data, .data, .data, .sentinel, .sentinel], laidTests := true, laidLooks := .later }
def SpaceNumbersUptoCardSaid : Prop := Claim7.holds Tryz.pinned (.plain (OpenSpec.upto spaceNumbersSpec)) spaceNumbersUptoCard

/-- THE SECOND FORM's CARD OF 'trunnellaw01.SpaceVectors'. -/
def spaceVectorsUptoCard : Claim7 := { stood := { row := spaceVectorsUptoRow, standIns := [], harness := (true, "81da6fbd9c49cf521be0089a49d14cb5087461cb03ea0b319b989e6d81769743"), looks := true }, kinds := [], alts := [], laidByText := true, laidKinds := [.data, .data, .data, .sentinel, .sentinel], laidTests := true, laidLooks := .later }
def SpaceVectorsUptoCardSaid : Prop := Claim7.holds Tryz.pinned (.plain (OpenSpec.upto spaceVectorsSpec)) spaceVectorsUptoCard
end Rows
end Go.Proofs.YtoiejgkkcfkliaaGreatDoor
