/-
  DERIVED. GIVEN WITH THE SEED: THE CARDS: each row of YtopgldaekcmekaaDoorRows.lean that lists a variable, with what it lists TIED to the program's text (the seventh form; the later family's looks); each row that meets fmt, with fmt's text TOLD by the authors' own Lean function (tested against real Go, not proved from fmt's source: count such statements apart). THE CARD IS WHAT COUNTS. Prove the row's statement (the work); the ties are given (YtopgldaekcmekaaDoorTie.lean); close each card by the builder's one call (the guide's Derived/Test/ToyasCard.lean, 'card_holds'). Laid BY PROGRAM, IN A SANDBOX (cutbox-door.mjs). By AI agents, Wed Nov 11 2026. No macro, syntax, notation, axiom, sorry.
-/
import Derived.Test.YtopgldaekcmekaaDoorRows
import GoSem.ClaimSeven
namespace Go.Proofs.YtopgldaekcmekaaDoor
namespace Rows

/-- THE TIED CARD OF 'cottonpadlaw02.ClassFails'. -/
def classFailsCard : Claim7 := { stood := { row := classFailsRow, standIns := [], harness := (true, "ab0f63710f9929ad3dea41617711499afb84072bf733fb0704897cb38e41dd2a"), looks := true }, kinds := [], alts := [], laidByText := true, laidKinds := [.funcs], laidTests := true, laidLooks := .later }
def ClassFailsCardSaid : Prop := Claim7.holds Tryd.pinned (.plain (OpenSpec.ofChange classFailsSpec)) classFailsCard

/-- THE TIED CARD OF 'cottonpadlaw02.ClassExamples'. -/
def classExamplesCard : Claim7 := { stood := { row := classExamplesRow, standIns := [], harness := (true, "ab0f63710f9929ad3dea41617711499afb84072bf733fb0704897cb38e41dd2a"), looks := true }, kinds := [], alts := [], laidByText := true, laidKinds := [.funcs], laidTests := true, laidLooks := .later }
def ClassExamplesCardSaid : Prop := Claim7.holds Tryd.pinned (.plain (OpenSpec.ofChange classExamplesSpec)) classExamplesCard

/-- THE SECOND FORM's CARD OF 'cottonpadlaw02.ClassFails'. -/
def classFailsUptoCard : Claim7 := { stood := { row := classFailsUptoRow, standIns := [], harness := (true, "ab0f63710f9929ad3dea41617711499afb84072bf733fb0704897cb38e41dd2a"), looks := true }, kinds := [], alts := [], laidByText := true, laidKinds := [.funcs], laidTests := true, laidLooks := .later }
def ClassFailsUptoCardSaid : Prop := Claim7.holds Tryd.pinned (.plain (OpenSpec.upto classFailsSpec)) classFailsUptoCard

/-- THE SECOND FORM's CARD OF 'cottonpadlaw02.ClassExamples'. -/
def classExamplesUptoCard : Claim7 := { stood := { row := classExamplesUptoRow, standIns := [], harness := (true, "ab0f63710f9929ad3dea41617711499afb84072bf733fb0704897cb38e41dd2a"), looks := true }, kinds := [], alts := [], laidByText := true, laidKinds := [.funcs], laidTests := true, laidLooks := .later }
def ClassExamplesUptoCardSaid : Prop := Claim7.holds Tryd.pinned (.plain (OpenSpec.upto classExamplesSpec)) classExamplesUptoCard
end Rows
end Go.Proofs.YtopgldaekcmekaaDoor
