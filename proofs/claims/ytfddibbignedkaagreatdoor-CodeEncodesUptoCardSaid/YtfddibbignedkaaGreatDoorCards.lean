/-
  DERIVED. GIVEN WITH THE SEED: THE CARDS: each row of YtfddibbignedkaaGreatDoorRows.lean that lists a variable, with what it lists TIED to the program's text (the seventh form; the later family's looks); each row that meets fmt, with fmt's text TOLD by the authors' own Lean function (tested against real Go, not proved from fmt's source: count such statements apart). THE CARD IS WHAT COUNTS. Prove the row's statement (the work); the ties are given (YtfddibbignedkaaGreatDoorTie.lean); close each card by the builder's one call (the guide's Derived/Test/ToyasCard.lean, 'card_holds'). Laid BY PROGRAM, IN A SANDBOX (cutbox-door.mjs). By AI agents, Wed Nov 11 2026. No macro, syntax, notation, axiom, sorry.
-/
import Derived.Test.YtfddibbignedkaaGreatDoorRows
import GoSem.ClaimSeven
namespace Go.Proofs.YtfddibbignedkaaGreatDoor
namespace Rows

/-- THE TIED CARD OF 'foundrylaw14.CodeVerifies'. -/
def codeVerifiesCard : Claim7 := { stood := { row := codeVerifiesRow, standIns := [], harness := (true, "69e8e38445e113e70237c3c9d8ccb3731f318bc3aff314bfc96a5245e6ea7afc"), looks := false }, kinds := [], alts := [], laidByText := true, laidKinds := [.data, .data, .data, .data, .listed, .data, .pinned, .pinned], laidTests := true, laidLooks := .later }
def CodeVerifiesCardSaid : Prop := Claim7.holds Tryz.pinned (.plain (OpenSpec.ofChange codeVerifiesSpec)) codeVerifiesCard

/-- THE TIED CARD OF 'foundrylaw14.CodeUnlike'. -/
def codeUnlikeCard : Claim7 := { stood := { row := codeUnlikeRow, standIns := [], harness := (true, "69e8e38445e113e70237c3c9d8ccb3731f318bc3aff314bfc96a5245e6ea7afc"), looks := false }, kinds := [], alts := [], laidByText := true, laidKinds := [.data, .data, .data, .data, .listed, .data, .pinned, .pinned], laidTests := true, laidLooks := .later }
def CodeUnlikeCardSaid : Prop := Claim7.holds Tryz.pinned (.plain (OpenSpec.ofChange codeUnlikeSpec)) codeUnlikeCard

/-- THE TIED CARD OF 'foundrylaw14.CodeInstructions'. -/
def codeInstructionsCard : Claim7 := { stood := { row := codeInstructionsRow, standIns := [], harness := (true, "69e8e38445e113e70237c3c9d8ccb3731f318bc3aff314bfc96a5245e6ea7afc"), looks := false }, kinds := [], alts := [], laidByText := true, laidKinds := [.data, .data, .data, .data, .listed, .data, .pinned, .pinned], laidTests := true, laidLooks := .later }
def CodeInstructionsCardSaid : Prop := Claim7.holds Tryz.pinned (.plain (OpenSpec.ofChange codeInstructionsSpec)) codeInstructionsCard

/-- THE TIED CARD OF 'foundrylaw14.CodeShapes'. -/
def codeShapesCard : Claim7 := { stood := { row := codeShapesRow, standIns := [], harness := (true, "69e8e38445e113e70237c3c9d8ccb3731f318bc3aff314bfc96a5245e6ea7afc"), looks := false }, kinds := [], alts := [], laidByText := true, laidKinds := [.data, .data, .data, .data, .listed, .data, .pinned, .pinned], laidTests := true, laidLooks := .later }
def CodeShapesCardSaid : Prop := Claim7.holds Tryz.pinned (.plain (OpenSpec.ofChange codeShapesSpec)) codeShapesCard

/-- THE TIED CARD OF 'foundrylaw14.CodeOneShape'. -/
def codeOneShapeCard : Claim7 := { stood := { row := codeOneShapeRow, standIns := [], harness := (true, "69e8e38445e113e70237c3c9d8ccb3731f318bc3aff314bfc96a5245e6ea7afc"), looks := false }, kinds := [], alts := [], laidByText := true, laidKinds := [.data, .data, .data, .data, .listed, .data, .pinned, .pinned], laidTests := true, laidLooks := .later }
def CodeOneShapeCardSaid : Prop := Claim7.holds Tryz.pinned (.plain (OpenSpec.ofChange codeOneShapeSpec)) codeOneShapeCard

/-- THE TIED CARD OF 'foundrylaw14.CodeDead'. -/
def codeDeadCard : Claim7 := { stood := { row := codeDeadRow, standIns := [], harness := (true, "69e8e38445e113e70237c3c9d8ccb3731f318bc3aff314bfc96a5245e6ea7afc"), looks := false }, kinds := [], alts := [], laidByText := true, laidKinds := [.data, .data, .data, .data, .listed, .data, .pinned, .pinned], laidTests := true, laidLooks := .later }
def CodeDeadCardSaid : Prop := Claim7.holds Tryz.pinned (.plain (OpenSpec.ofChange codeDeadSpec)) codeDeadCard

/-- THE TIED CARD OF 'foundrylaw14.CodePatches'. -/
def codePatchesCard : Claim7 := { stood := { row := codePatchesRow, standIns := [], harness := (true, "69e8e38445e113e70237c3c9d8ccb3731f318bc3aff314bfc96a5245e6ea7afc"), looks := false }, kinds := [], alts := [], laidByText := true, laidKinds := [.data, .data, .data, .data, .listed, .data, .pinned, .pinned], laidTests := true, laidLooks := .later }
def CodePatchesCardSaid : Prop := Claim7.holds Tryz.pinned (.plain (OpenSpec.ofChange codePatchesSpec)) codePatchesCard

/-- THE TIED CARD OF 'foundrylaw14.CodeEncodes'. -/
def codeEncodesCard : Claim7 := { stood := { row := codeEncodesRow, standIns := [], harness := (true, "69e8e38445e113e70237c3c9d8ccb3731f318bc3aff314bfc96a5245e6ea7afc"), looks := false }, kinds := [], alts := [], laidByText := true, laidKinds := [.data, .data, .data, .data, .listed, .data, .pinned, .pinned], laidTests := true, laidLooks := .later }
def CodeEncodesCardSaid : Prop := Claim7.holds Tryz.pinned (.plain (OpenSpec.ofChange codeEncodesSpec)) codeEncodesCard

/-- THE TIED CARD OF 'foundrylaw14.CodeDecodes'. -/
def codeDecodesCard : Claim7 := { stood := { row := codeDecodesRow, standIns := [], harness := (true, "69e8e38445e113e70237c3c9d8ccb3731f318bc3aff314bfc96a5245e6ea7afc"), looks := false }, kinds := [], alts := [], laidByText := true, laidKinds := [.data, .data, .data, .data, .listed, .data, .pinned, .pinned], laidTests := true, laidLooks := .later }
def CodeDecodesCardSaid : Prop := Claim7.holds Tryz.pinned (.plain (OpenSpec.ofChange codeDecodesSpec)) codeDecodesCard

/-- THE TIED CARD OF 'foundrylaw14.CodeBack'. -/
def codeBackCard : Claim7 := { stood := { row := codeBackRow, standIns := [], harness := (true, "69e8e38445e113e70237c3c9d8ccb3731f318bc3aff314bfc96a5245e6ea7afc"), looks := false }, kinds := [], alts := [], laidByText := true, laidKinds := [.data, .data, .data, .data, .listed, .data, .pinned, .pinned], laidTests := true, laidLooks := .later }
def CodeBackCardSaid : Prop := Claim7.holds Tryz.pinned (.plain (OpenSpec.ofChange codeBackSpec)) codeBackCard

/-- THE SECOND FORM's CARD OF 'foundrylaw14.CodeVerifies'. -/
def codeVerifiesUptoCard : Claim7 := { stood := { row := codeVerifiesUptoRow, standIns := [], harness := (true, "69e8e38445e113e70237c3c9d8ccb3731f318bc3aff314bfc96a5245e6ea7afc"), looks := false }, kinds := [], alts := [], laidByText := true, laidKinds := [.data, .data, .data, .data, .listed, .data, .pinned, .pinned], laidTests := true, laidLooks := .later }
def CodeVerifiesUptoCardSaid : Prop := Claim7.holds Tryz.pinned (.plain (OpenSpec.upto codeVerifiesSpec)) codeVerifiesUptoCard

/-- THE SECOND FORM's CARD OF 'foundrylaw14.CodeUnlike'. -/
def codeUnlikeUptoCard : Claim7 := { stood := { row := codeUnlikeUptoRow, standIns := [], harness := (true, "69e8e38445e113e70237c3c9d8ccb3731f318bc3aff314bfc96a5245e6ea7afc"), looks := false }, kinds := [], alts := [], laidByText := true, laidKinds := [.data, .data, .data, .data, .listed, .data, .pinned, .pinned], laidTests := true, laidLooks := .later }
def CodeUnlikeUptoCardSaid : Prop := Claim7.holds Tryz.pinned (.plain (OpenSpec.upto codeUnlikeSpec)) codeUnlikeUptoCard

/-- THE SECOND FORM's CARD OF 'foundrylaw14.CodeInstructions'. -/
def codeInstructionsUptoCard : Claim7 := { stood := { row := codeInstructionsUptoRow, standIns := [], harness := (true, "69e8e38445e113e70237c3c9d8ccb3731f318bc3aff314bfc96a5245e6ea7afc"), looks := false }, kinds := [], alts := [], laidByText := true, laidKinds := [.data, .data, .data, .data, .listed, .data, .pinned, .pinned], laidTests := true, laidLooks := .later }
def CodeInstructionsUptoCardSaid : Prop := Claim7.holds Tryz.pinned (.plain (OpenSpec.upto codeInstructionsSpec)) codeInstructionsUptoCard

/-- THE SECOND FORM's CARD OF 'foundrylaw14.CodeShapes'. -/
def codeShapesUptoCard : Claim7 := { stood := { row := codeShapesUptoRow, standIns := [], harness := (true, "69e8e38445e113e70237c3c9d8ccb3731f318bc3aff314bfc96a5245e6ea7afc"), looks := false }, kinds := [], alts := [], laidByText := true, laidKinds := [.data, .data, .data, .data, .listed, .data, .pinned, .pinned], laidTests := true, laidLooks := .later }
def CodeShapesUptoCardSaid : Prop := Claim7.holds Tryz.pinned (.plain (OpenSpec.upto codeShapesSpec)) codeShapesUptoCard

/-- THE SECOND FORM's CARD OF 'foundrylaw14.CodeOneShape'. -/
def codeOneShapeUptoCard : Claim7 := { stood := { row := codeOneShapeUptoRow, standIns := [], harness := (true, "69e8e38445e113e70237c3c9d8ccb3731f318bc3aff314bfc96a5245e6ea7afc"), looks := false }, kinds := [], alts := [], laidByText := true, laidKinds := [.data, .data, .data, .data, .listed, .data, .pinned, .pinned], laidTests := true, laidLooks := .later }
def CodeOneShapeUptoCardSaid : Prop := Claim7.holds Tryz.pinned (.plain (OpenSpec.upto codeOneShapeSpec)) codeOneShapeUptoCard

/-- THE SECOND FORM's CARD OF 'foundrylaw14.CodeDead'. -/
def codeDeadUptoCard : Claim7 := { stood := { row := codeDeadUptoRow, standIns := [], harness := (true, "69e8e38445e113e70237c3c9d8ccb3731f318bc3aff314bfc96a5245e6ea7afc"), looks := false }, kinds := [], alts := [], laidByText := true, laidKinds := [.data, .data, .data, .data, .listed, .data, .pinned, .pinned], laidTests := true, laidLooks := .later }
def CodeDeadUptoCardSaid : Prop := Claim7.holds Tryz.pinned (.plain (OpenSpec.upto codeDeadSpec)) codeDeadUptoCard

/-- THE SECOND FORM's CARD OF 'foundrylaw14.CodePatches'. -/
def codePatchesUptoCard : Claim7 := { stood := { row := codePatchesUptoRow, standIns := [], harness := (true, "69e8e38445e113e70237c3c9d8ccb3731f318bc3aff314bfc96a5245e6ea7afc"), looks := false }, kinds := [], alts := [], laidByText := true, laidKinds := [.data, .data, .data, .data, .listed, .data, .pinned, .pinned], laidTests := true, laidLooks := .later }
def CodePatchesUptoCardSaid : Prop := Claim7.holds Tryz.pinned (.plain (OpenSpec.upto codePatchesSpec)) codePatchesUptoCard

/-- THE SECOND FORM's CARD OF 'foundrylaw14.CodeEncodes'. -/
def codeEncodesUptoCard : Claim7 := { stood := { row := codeEncodesUptoRow, standIns := [], harness := (true, "69e8e38445e113e70237c3c9d8ccb3731f318bc3aff314bfc96a5245e6ea7afc"), looks := false }, kinds := [], alts := [], laidByText := true, laidKinds := [.data, .data, .data, .data, .listed, .data, .pinned, .pinned], laidTests := true, laidLooks := .later }
def CodeEncodesUptoCardSaid : Prop := Claim7.holds Tryz.pinned (.plain (OpenSpec.upto codeEncodesSpec)) codeEncodesUptoCard

/-- THE SECOND FORM's CARD OF 'foundrylaw14.CodeDecodes'. -/
def codeDecodesUptoCard : Claim7 := { stood := { row := codeDecodesUptoRow, standIns := [], harness := (true, "69e8e38445e113e70237c3c9d8ccb3731f318bc3aff314bfc96a5245e6ea7afc"), looks := false }, kinds := [], alts := [], laidByText := true, laidKinds := [.data, .data, .data, .data, .listed, .data, .pinned, .pinned], laidTests := true, laidLooks := .later }
def CodeDecodesUptoCardSaid : Prop := Claim7.holds Tryz.pinned (.plain (OpenSpec.upto codeDecodesSpec)) codeDecodesUptoCard

/-- THE SECOND FORM's CARD OF 'foundrylaw14.CodeBack'. -/
def codeBackUptoCard : Claim7 := { stood := { row := codeBackUptoRow, standIns := [], harness := (true, "69e8e38445e113e70237c3c9d8ccb3731f318bc3aff314bfc96a5245e6ea7afc"), looks := false }, kinds := [], alts := [], laidByText := true, laidKinds := [.data, .data, .data, .data, .listed, .data, .pinned, .pinned], laidTests := true, laidLooks := .later }
def CodeBackUptoCardSaid : Prop := Claim7.holds Tryz.pinned (.plain (OpenSpec.upto codeBackSpec)) codeBackUptoCard
end Rows
end Go.Proofs.YtfddibbignedkaaGreatDoor
