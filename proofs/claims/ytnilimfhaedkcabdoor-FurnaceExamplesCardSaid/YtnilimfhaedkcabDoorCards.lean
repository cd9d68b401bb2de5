/-
  DERIVED. GIVEN WITH THE SEED: THE CARDS: each row of YtnilimfhaedkcabDoorRows.lean that lists a variable, with what it lists TIED to the program's text (the seventh form; the later family's looks); each row that meets fmt, with fmt's text TOLD by the authors' own Lean function (tested against real Go, not proved from fmt's source: count such statements apart). THE CARD IS WHAT COUNTS. Prove the row's statement (the work); the ties are given (YtnilimfhaedkcabDoorTie.lean); close each card by the builder's one call (the guide's Derived/Test/ToyasCard.lean, 'card_holds'). Laid BY PROGRAM, IN A SANDBOX (cutbox-door.mjs). By AI agents, Wed Nov 11 2026. No macro, syntax, notation, axiom, sorry.
-/
import Derived.Test.YtnilimfhaedkcabDoorRows
import GoSem.ClaimSeven
namespace Go.Proofs.YtnilimfhaedkcabDoor
namespace Rows

/-- THE TIED CARD OF 'cottonpadlaw01.FurnaceExamples'. -/
def furnaceExamplesCard : Claim7 := { stood := { row := furnaceExamplesRow, standIns := [], harness := (true, "9237a4ea7ccfa927e1e45ea7770eb26980cd71949748225f62dd3834bee84f8c"), looks := false }, kinds := [], alts := [], laidByText := true, laidKinds := [.data, .data, .data], laidTests := true, laidLooks := .later }
def FurnaceExamplesCardSaid : Prop := Claim7.holds Tryd.pinned (.plain (OpenSpec.ofChange furnaceExamplesSpec)) furnaceExamplesCard

/-- THE SECOND FORM's CARD OF 'cottonpadlaw01.FurnaceExamples'. -/
def furnaceExamplesUptoCard : Claim7 := { stood := { row := furnaceExamplesUptoRow, standIns := [], harness := (true, "9237a4ea7ccfa927e1e45ea7770eb26980cd71949748225f62dd3834bee84f8c"), looks := false }, kinds := [], alts := [], laidByText := true, laidKinds := [.data, .data, .data], laidTests := true, laidLooks := .later }
def FurnaceExamplesUptoCardSaid : Prop := Claim7.holds Tryd.pinned (.plain (OpenSpec.upto furnaceExamplesSpec)) furnaceExamplesUptoCard
end Rows
end Go.Proofs.YtnilimfhaedkcabDoor
