/-
  DERIVED. GIVEN WITH THE SEED: THE CARDS: each row of YtfjpnjbinbhcfaaDoorRows.lean that lists a variable, with what it lists TIED to the program's text (the seventh form; the later family's looks); each row that meets fmt, with fmt's text TOLD by the authors' own Lean function (tested against real Go, not proved from fmt's source: count such statements apart). THE CARD IS WHAT COUNTS. Prove the row's statement (the work); the ties are given (YtfjpnjbinbhcfaaDoorTie.lean); close each card by the builder's one call (the guide's Derived/Test/ToyasCard.lean, 'card_holds'). Laid BY PROGRAM, IN A SANDBOX (cutbox-door.mjs). By AI agents, Wed Nov 11 2026. No macro, syntax, notation, axiom, sorry.
-/
import Derived.Test.YtfjpnjbinbhcfaaDoorRows
import GoSem.ClaimSeven
namespace Go.Proofs.YtfjpnjbinbhcfaaDoor
namespace Rows

/-- THE TIED CARD OF 'foundrylaw08.TypesOps'. -/
def typesOpsCard : Claim7 := { stood := { row := typesOpsRow, standIns := [], harness := (true, "762fd4d685f7849161ac3585e44d38cf78ee09e59ea25ef16337a2c6d47fcd3d"), looks := false }, kinds := [], alts := [], laidByText := true, laidKinds := [.data, .data, .data, .data, .pinned, .pinned], laidTests := true, laidLooks := .later }
def TypesOpsCardSaid : Prop := Claim7.holds Tryd.pinned (.plain (OpenSpec.ofChange typesOpsSpec)) typesOpsCard

/-- THE SECOND FORM's CARD OF 'foundrylaw08.TypesOps'. -/
def typesOpsUptoCard : Claim7 := { stood := { row := typesOpsUptoRow, standIns := [], harness := (true, "762fd4d685f7849161ac3585e44d38cf78ee09e59ea25ef16337a2c6d47fcd3d"), looks := false }, kinds := [], alts := [], laidByText := true, laidKinds := [.data, .data, .data, .data, .pinned, .pinned], laidTests := true, laidLooks := .later }
def TypesOpsUptoCardSaid : Prop := Claim7.holds Tryd.pinned (.plain (OpenSpec.upto typesOpsSpec)) typesOpsUptoCard
end Rows
end Go.Proofs.YtfjpnjbinbhcfaaDoor
