/-
  DERIVED. GIVEN WITH THE SEED: THE CARDS: each row of YtakchlfojeefaaaDoorRows.lean that lists a variable, with what it lists TIED to the program's text (the seventh form; the later family's looks); each row that meets fmt, with fmt's text TOLD by the authors' own Lean function (tested against real Go, not proved from fmt's source: count such statements apart). THE CARD IS WHAT COUNTS. Prove the row's statement (the work); the ties are given (YtakchlfojeefaaaDoorTie.lean); close each card by the builder's one call (the guide's Derived/Test/ToyasCard.lean, 'card_holds'). Laid BY PROGRAM, IN A SANDBOX (cutbox-door.mjs). By AI agents, Wed Nov 11 2026. No macro, syntax, notation, axiom, sorry.
-/
import Derived.Test.YtakchlfojeefaaaDoorRows
import GoSem.ClaimSeven
namespace Go.Proofs.YtakchlfojeefaaaDoor
namespace Rows

/-- THE TIED CARD OF 'foundrylaw08.TypesOperators'. -/
def typesOperatorsCard : Claim7 := { stood := { row := typesOperatorsRow, standIns := [], harness := (true, "798edaf1eded01bb5aaac5f71fb65d86f89f8898820e1231d58bb040e1b9a4fd"), looks := false }, kinds := [], alts := [], laidByText := true, laidKinds := [.data, .data, .data, .data, .pinned, .pinned], laidTests := true, laidLooks := .later }
def TypesOperatorsCardSaid : Prop := Claim7.holds Tryd.pinned (.plain (OpenSpec.ofChange typesOperatorsSpec)) typesOperatorsCard

/-- THE SECOND FORM's CARD OF 'foundrylaw08.TypesOperators'. -/
def typesOperatorsUptoCard : Claim7 := { stood := { row := typesOperatorsUptoRow, standIns := [], harness := (true, "798edaf1eded01bb5aaac5f71fb65d86f89f8898820e1231d58bb040e1b9a4fd"), looks := false }, kinds := [], alts := [], laidByText := true, laidKinds := [.data, .data, .data, .data, .pinned, .pinned], laidTests := true, laidLooks := .later }
def TypesOperatorsUptoCardSaid : Prop := Claim7.holds Tryd.pinned (.plain (OpenSpec.upto typesOperatorsSpec)) typesOperatorsUptoCard
end Rows
end Go.Proofs.YtakchlfojeefaaaDoor
